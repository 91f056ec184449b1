/- The walks, printed by a program from the translation and a specification. -/
import Derived.Test.YthbfdhphnofacaaRtF
import Derived.Test.YthbfdhphnofacaaRtPure
import Derived.Test.YthbfdhphnofacaaRtW1
namespace Go.Proofs.Ythbfdhphnofacaa
open Go.Sx Go.RowKit
set_option maxHeartbeats 8000000 in
set_option maxRecDepth 100000 in
theorem rateCheck_ok (b : DBucket) : Fn0 Try.prog 37 [.agg #[.int .i64 b.most, .int .i64 b.every, .int .i64 b.has, .int .i64 b.at_]] (fun _ => True) (.int .i64 (Rate.check0 b)) := by
  refine fn0 (nt := 27) (F0 := [(0, .agg #[.int .i64 b.most, .int .i64 b.every, .int .i64 b.has, .int .i64 b.at_])]) Try.func37 rfl Try.ntmps37 rfl rfl (fun w0 hpre => ?_)
  refine c_seq ?_
  refine c_region ?_
  refine o_box (v := .agg #[.int .i64 b.most, .int .i64 b.every, .int .i64 b.has, .int .i64 b.at_]) rfl rfl (fun B1 => ?_)
  refine o_pure (p_assign (v := .int .i64 0) rfl) rfl rfl rfl ?_
  refine o_nil ?_
  refine q_then ?_
  refine c_seq ?_
  refine c_seq ?_
  refine c_region ?_
  refine o_pure (p_fieldAddr (B := B1) (j := 0) (j' := 0) rfl fo53_0 rfl) rfl rfl rfl ?_
  refine o_pure (p_load (i := 0) (v := .int .i64 b.most) rfl rfl sh3 rfl) rfl rfl rfl ?_
  refine o_call0 (v := .bool (Rate.between b.most 1 1048576)) rfl (between_ok b.most 1 1048576) hf49 (fun _ _ => trivial) rfl ?_
  refine o_pure (p_not (b := (Rate.between b.most 1 1048576)) rfl) rfl rfl rfl ?_
  refine o_pure (p_move (v := .bool (!(Rate.between b.most 1 1048576))) rfl) rfl rfl rfl ?_
  refine o_or (p := 12) 5 (!(Rate.between b.every 1 1048576)) ?_ ?_ ?_
  · intro hb2 hk
    simp only [Bool.not_eq_false'] at hb2
    refine o_unguard 7 rfl rfl ?_
    refine o_pure (p_fieldAddr (B := B1) (j := 0) (j' := 1) rfl fo53_1 rfl) rfl rfl rfl ?_
    refine o_unguard 7 rfl rfl ?_
    refine o_pure (p_load (i := 0) (v := .int .i64 b.every) rfl rfl sh3 rfl) rfl rfl rfl ?_
    refine o_unguard 7 rfl rfl ?_
    refine o_call0 (v := .bool (Rate.between b.every 1 1048576)) rfl (between_ok b.every 1 1048576) hf49 (fun _ _ => trivial) rfl ?_
    refine o_unguard 7 rfl rfl ?_
    refine o_pure (p_not (b := (Rate.between b.every 1 1048576)) rfl) rfl rfl rfl ?_
    refine o_pure (p_pick_false (v := .bool (!(Rate.between b.every 1 1048576))) rfl rfl) rfl rfl rfl ?_
    exact o_sub (Sub.cons rfl (Sub.skip rfl (Sub.skip rfl (Sub.skip rfl (Sub.skip rfl (Sub.skip rfl (Sub.skip rfl (Sub.refl _)))))))) hk
  · intro hb2 hk
    refine o_guard_no rfl 7 rfl rfl rfl rfl rfl ?_
    refine o_guard_no rfl 7 rfl rfl rfl rfl rfl ?_
    refine o_guard_no rfl 7 rfl rfl rfl rfl rfl ?_
    refine o_guard_no rfl 7 rfl rfl rfl rfl rfl ?_
    refine o_pure (p_pick_true (u := .bool true) rfl rfl) rfl rfl rfl ?_
    exact o_sub (Sub.cons rfl (Sub.skip rfl (Sub.skip rfl (Sub.skip rfl (Sub.skip rfl (Sub.skip rfl (Sub.skip rfl (Sub.refl _)))))))) hk
  refine o_pure (p_move (v := .bool ((!(Rate.between b.most 1 1048576)) || (!(Rate.between b.every 1 1048576)))) rfl) rfl rfl rfl ?_
  refine o_or (p := 20) 7 (!(Rate.between b.has 0 b.most)) ?_ ?_ ?_
  · intro hb3 hk
    simp only [Bool.or_eq_false_iff, Bool.not_eq_false'] at hb3
    refine o_unguard 13 rfl rfl ?_
    refine o_pure (p_fieldAddr (B := B1) (j := 0) (j' := 2) rfl fo53_2 rfl) rfl rfl rfl ?_
    refine o_unguard 13 rfl rfl ?_
    refine o_pure (p_load (i := 0) (v := .int .i64 b.has) rfl rfl sh3 rfl) rfl rfl rfl ?_
    refine o_unguard 13 rfl rfl ?_
    refine o_pure (p_fieldAddr (B := B1) (j := 0) (j' := 0) rfl fo53_0 rfl) rfl rfl rfl ?_
    refine o_unguard 13 rfl rfl ?_
    refine o_pure (p_load (i := 0) (v := .int .i64 b.most) rfl rfl sh3 rfl) rfl rfl rfl ?_
    refine o_unguard 13 rfl rfl ?_
    refine o_call0 (v := .bool (Rate.between b.has 0 b.most)) rfl (between_ok b.has 0 b.most) hf49 (fun _ _ => trivial) rfl ?_
    refine o_unguard 13 rfl rfl ?_
    refine o_pure (p_not (b := (Rate.between b.has 0 b.most)) rfl) rfl rfl rfl ?_
    refine o_pure (p_pick_false (v := .bool (!(Rate.between b.has 0 b.most))) rfl rfl) rfl rfl rfl ?_
    exact o_sub (Sub.cons rfl (Sub.skip rfl (Sub.skip rfl (Sub.skip rfl (Sub.skip rfl (Sub.skip rfl (Sub.skip rfl (Sub.skip rfl (Sub.skip rfl (Sub.refl _)))))))))) hk
  · intro hb3 hk
    refine o_guard_no rfl 13 rfl rfl rfl rfl rfl ?_
    refine o_guard_no rfl 13 rfl rfl rfl rfl rfl ?_
    refine o_guard_no rfl 13 rfl rfl rfl rfl rfl ?_
    refine o_guard_no rfl 13 rfl rfl rfl rfl rfl ?_
    refine o_guard_no rfl 13 rfl rfl rfl rfl rfl ?_
    refine o_guard_no rfl 13 rfl rfl rfl rfl rfl ?_
    refine o_pure (p_pick_true (u := .bool true) rfl rfl) rfl rfl rfl ?_
    exact o_sub (Sub.cons rfl (Sub.skip rfl (Sub.skip rfl (Sub.skip rfl (Sub.skip rfl (Sub.skip rfl (Sub.skip rfl (Sub.skip rfl (Sub.skip rfl (Sub.refl _)))))))))) hk
  refine o_pure (p_move (v := .bool (((!(Rate.between b.most 1 1048576)) || (!(Rate.between b.every 1 1048576))) || (!(Rate.between b.has 0 b.most)))) rfl) rfl rfl rfl ?_
  refine o_or (p := 26) 5 (!(Rate.between b.at_ 0 1099511627776)) ?_ ?_ ?_
  · intro hb4 hk
    simp only [Bool.or_eq_false_iff, Bool.not_eq_false'] at hb4
    refine o_unguard 21 rfl rfl ?_
    refine o_pure (p_fieldAddr (B := B1) (j := 0) (j' := 3) rfl fo53_3 rfl) rfl rfl rfl ?_
    refine o_unguard 21 rfl rfl ?_
    refine o_pure (p_load (i := 0) (v := .int .i64 b.at_) rfl rfl sh3 rfl) rfl rfl rfl ?_
    refine o_unguard 21 rfl rfl ?_
    refine o_call0 (v := .bool (Rate.between b.at_ 0 1099511627776)) rfl (between_ok b.at_ 0 1099511627776) hf49 (fun _ _ => trivial) rfl ?_
    refine o_unguard 21 rfl rfl ?_
    refine o_pure (p_not (b := (Rate.between b.at_ 0 1099511627776)) rfl) rfl rfl rfl ?_
    refine o_pure (p_pick_false (v := .bool (!(Rate.between b.at_ 0 1099511627776))) rfl rfl) rfl rfl rfl ?_
    exact o_sub (Sub.cons rfl (Sub.skip rfl (Sub.skip rfl (Sub.skip rfl (Sub.skip rfl (Sub.skip rfl (Sub.skip rfl (Sub.refl _)))))))) hk
  · intro hb4 hk
    refine o_guard_no rfl 21 rfl rfl rfl rfl rfl ?_
    refine o_guard_no rfl 21 rfl rfl rfl rfl rfl ?_
    refine o_guard_no rfl 21 rfl rfl rfl rfl rfl ?_
    refine o_guard_no rfl 21 rfl rfl rfl rfl rfl ?_
    refine o_pure (p_pick_true (u := .bool true) rfl rfl) rfl rfl rfl ?_
    exact o_sub (Sub.cons rfl (Sub.skip rfl (Sub.skip rfl (Sub.skip rfl (Sub.skip rfl (Sub.skip rfl (Sub.skip rfl (Sub.refl _)))))))) hk
  refine o_nil ?_
  refine q_then ?_
  refine c_cond (b := ((((!(Rate.between b.most 1 1048576)) || (!(Rate.between b.every 1 1048576))) || (!(Rate.between b.has 0 b.most))) || (!(Rate.between b.at_ 0 1099511627776)))) rfl (fun hc5 => ?_) (fun hc5 => ?_)
  · simp only [Bool.or_eq_true, Bool.not_eq_true'] at hc5
    refine c_seq ?_
    refine c_region ?_
    refine o_pure (p_assign (v := .int .i64 3) rfl) rfl rfl rfl ?_
    refine o_nil ?_
    refine q_then ?_
    refine c_ret ?_
    refine q_then_ret ?_
    refine q_end0 (v := .int .i64 3) (rt1 rfl (r_tmp rfl)) (i := 1) rfl ?_
    congr 1
    grind [Rate.check0, Rate.check, Rate.bad, Rate.tick, Rate.some_, Rate.between]
  · simp only [Bool.or_eq_false_iff, Bool.not_eq_false'] at hc5
    refine c_skip ?_
    refine q_then ?_
    refine c_seq ?_
    refine c_region ?_
    refine o_pure (p_assign (v := .int .i64 0) rfl) rfl rfl rfl ?_
    refine o_nil ?_
    refine q_then ?_
    refine c_ret ?_
    refine q_end0 (v := .int .i64 0) (rt1 rfl (r_tmp rfl)) (i := 1) rfl ?_
    congr 1
    grind [Rate.check0, Rate.check, Rate.bad, Rate.tick, Rate.some_, Rate.between]

set_option maxHeartbeats 8000000 in
set_option maxRecDepth 100000 in
theorem rateErr_ok (b : DBucket) (at_ : Int) : Fn0 Try.prog 38 [.agg #[.int .i64 b.most, .int .i64 b.every, .int .i64 b.has, .int .i64 b.at_], .int .i64 at_] (fun _ => True) (.int .i64 (Rate.check b at_)) := by
  refine fn0 (nt := 24) (F0 := [(0, .agg #[.int .i64 b.most, .int .i64 b.every, .int .i64 b.has, .int .i64 b.at_]), (1, .int .i64 at_)]) Try.func38 rfl Try.ntmps38 rfl rfl (fun w0 hpre => ?_)
  refine c_seq ?_
  refine c_region ?_
  refine o_box (v := .agg #[.int .i64 b.most, .int .i64 b.every, .int .i64 b.has, .int .i64 b.at_]) rfl rfl (fun B1 => ?_)
  refine o_pure (p_assign (v := .int .i64 0) rfl) rfl rfl rfl ?_
  refine o_nil ?_
  refine q_then ?_
  refine c_seq ?_
  refine c_region ?_
  refine o_pure (p_load_agg (i := 0) (vs := [.int .i64 b.most, .int .i64 b.every, .int .i64 b.has, .int .i64 b.at_]) rfl rfl sh53 rfl rfl) rfl rfl rfl ?_
  refine o_call0 (v := .int .i64 (Rate.check0 b)) rfl (rateCheck_ok b) hf37 (fun _ _ => trivial) rfl ?_
  refine o_pure (p_assign (v := .int .i64 (Rate.check0 b)) rfl) rfl rfl rfl ?_
  refine o_nil ?_
  refine q_then ?_
  refine c_seq ?_
  refine c_seq ?_
  refine c_region ?_
  refine o_pure (p_move (v := .int .i64 (Rate.check0 b)) rfl) rfl rfl rfl ?_
  refine o_pure (p_eq (p := (Rate.check0 b)) (q := 0) rfl rfl) rfl rfl rfl ?_
  refine o_pure (p_move (v := .bool ((Rate.check0 b) == 0)) rfl) rfl rfl rfl ?_
  refine o_and (p := 14) 4 (!(Rate.between at_ 0 1099511627776)) ?_ ?_ ?_
  · intro hb2 hk
    simp only [beq_iff_eq] at hb2
    refine o_unguard 10 rfl rfl ?_
    refine o_pure (p_move (v := .int .i64 at_) rfl) rfl rfl rfl ?_
    refine o_unguard 10 rfl rfl ?_
    refine o_call0 (v := .bool (Rate.between at_ 0 1099511627776)) rfl (between_ok at_ 0 1099511627776) hf49 (fun _ _ => trivial) rfl ?_
    refine o_unguard 10 rfl rfl ?_
    refine o_pure (p_not (b := (Rate.between at_ 0 1099511627776)) rfl) rfl rfl rfl ?_
    refine o_pure (p_pick_true (u := .bool (!(Rate.between at_ 0 1099511627776))) rfl rfl) rfl rfl rfl ?_
    exact o_sub (Sub.cons rfl (Sub.skip rfl (Sub.skip rfl (Sub.skip rfl (Sub.skip rfl (Sub.skip rfl (Sub.refl _))))))) hk
  · intro hb2 hk
    refine o_guard_no rfl 10 rfl rfl rfl rfl rfl ?_
    refine o_guard_no rfl 10 rfl rfl rfl rfl rfl ?_
    refine o_guard_no rfl 10 rfl rfl rfl rfl rfl ?_
    refine o_pure (p_pick_false (v := .bool false) rfl rfl) rfl rfl rfl ?_
    exact o_sub (Sub.cons rfl (Sub.skip rfl (Sub.skip rfl (Sub.skip rfl (Sub.skip rfl (Sub.skip rfl (Sub.refl _))))))) hk
  refine o_nil ?_
  refine q_then ?_
  refine c_cond (b := (((Rate.check0 b) == 0) && (!(Rate.between at_ 0 1099511627776)))) rfl (fun hc3 => ?_) (fun hc3 => ?_)
  · simp only [Bool.and_eq_true, beq_iff_eq, Bool.not_eq_true'] at hc3
    refine c_region ?_
    refine o_pure (p_assign (v := .int .i64 3) rfl) rfl rfl rfl ?_
    refine o_nil ?_
    refine q_then ?_
    refine c_seq ?_
    refine c_seq ?_
    refine c_region ?_
    refine o_pure (p_move (v := .int .i64 3) rfl) rfl rfl rfl ?_
    refine o_pure (p_eq (p := 3) (q := 0) rfl rfl) rfl rfl rfl ?_
    refine o_pure (p_move (v := .bool false) rfl) rfl rfl rfl ?_
    refine o_guard_no rfl 17 rfl rfl rfl rfl rfl ?_
    refine o_guard_no rfl 17 rfl rfl rfl rfl rfl ?_
    refine o_guard_no rfl 17 rfl rfl rfl rfl rfl ?_
    refine o_guard_no rfl 17 rfl rfl rfl rfl rfl ?_
    refine o_pure (p_pick_false (v := .bool false) rfl rfl) rfl rfl rfl ?_
    refine o_nil ?_
    refine q_then ?_
    refine c_false rfl ?_
    refine c_skip ?_
    refine q_then ?_
    refine c_seq ?_
    refine c_region ?_
    refine o_pure (p_move (v := .int .i64 3) rfl) rfl rfl rfl ?_
    refine o_pure (p_assign (v := .int .i64 3) rfl) rfl rfl rfl ?_
    refine o_nil ?_
    refine q_then ?_
    refine c_ret ?_
    refine q_end0 (v := .int .i64 3) (rt1 rfl (r_tmp rfl)) (i := 1) rfl ?_
    congr 1
    grind [Rate.check0, Rate.check, Rate.bad, Rate.tick, Rate.some_, Rate.between]
  · simp only [Bool.and_eq_false_iff, beq_eq_false_iff_ne, ne_eq, Bool.not_eq_false'] at hc3
    refine c_skip ?_
    refine q_then ?_
    refine c_seq ?_
    refine c_seq ?_
    refine c_region ?_
    refine o_pure (p_move (v := .int .i64 (Rate.check0 b)) rfl) rfl rfl rfl ?_
    refine o_pure (p_eq (p := (Rate.check0 b)) (q := 0) rfl rfl) rfl rfl rfl ?_
    refine o_pure (p_move (v := .bool ((Rate.check0 b) == 0)) rfl) rfl rfl rfl ?_
    refine o_and (p := 22) 5 (decide (at_ < b.at_)) ?_ ?_ ?_
    · intro hb4 hk
      simp only [beq_iff_eq] at hb4
      refine o_unguard 17 rfl rfl ?_
      refine o_pure (p_move (v := .int .i64 at_) rfl) rfl rfl rfl ?_
      refine o_unguard 17 rfl rfl ?_
      refine o_pure (p_fieldAddr (B := B1) (j := 0) (j' := 3) rfl fo53_3 rfl) rfl rfl rfl ?_
      refine o_unguard 17 rfl rfl ?_
      refine o_pure (p_load (i := 0) (v := .int .i64 b.at_) rfl rfl sh3 rfl) rfl rfl rfl ?_
      refine o_unguard 17 rfl rfl ?_
      refine o_pure (p_lt (p := at_) (q := b.at_) rfl rfl) rfl rfl rfl ?_
      refine o_pure (p_pick_true (u := .bool (decide (at_ < b.at_))) rfl rfl) rfl rfl rfl ?_
      exact o_sub (Sub.cons rfl (Sub.skip rfl (Sub.skip rfl (Sub.skip rfl (Sub.skip rfl (Sub.skip rfl (Sub.skip rfl (Sub.refl _)))))))) hk
    · intro hb4 hk
      refine o_guard_no rfl 17 rfl rfl rfl rfl rfl ?_
      refine o_guard_no rfl 17 rfl rfl rfl rfl rfl ?_
      refine o_guard_no rfl 17 rfl rfl rfl rfl rfl ?_
      refine o_guard_no rfl 17 rfl rfl rfl rfl rfl ?_
      refine o_pure (p_pick_false (v := .bool false) rfl rfl) rfl rfl rfl ?_
      exact o_sub (Sub.cons rfl (Sub.skip rfl (Sub.skip rfl (Sub.skip rfl (Sub.skip rfl (Sub.skip rfl (Sub.skip rfl (Sub.refl _)))))))) hk
    refine o_nil ?_
    refine q_then ?_
    refine c_cond (b := (((Rate.check0 b) == 0) && decide (at_ < b.at_))) rfl (fun hc5 => ?_) (fun hc5 => ?_)
    · simp only [Bool.and_eq_true, beq_iff_eq, decide_eq_true_eq] at hc5
      refine c_region ?_
      refine o_pure (p_assign (v := .int .i64 4) rfl) rfl rfl rfl ?_
      refine o_nil ?_
      refine q_then ?_
      refine c_seq ?_
      refine c_region ?_
      refine o_pure (p_move (v := .int .i64 4) rfl) rfl rfl rfl ?_
      refine o_pure (p_assign (v := .int .i64 4) rfl) rfl rfl rfl ?_
      refine o_nil ?_
      refine q_then ?_
      refine c_ret ?_
      refine q_end0 (v := .int .i64 4) (rt1 rfl (r_tmp rfl)) (i := 1) rfl ?_
      congr 1
      grind [Rate.check0, Rate.check, Rate.bad, Rate.tick, Rate.some_, Rate.between]
    · simp only [Bool.and_eq_false_iff, beq_eq_false_iff_ne, ne_eq, decide_eq_false_iff_not, Int.not_lt] at hc5
      refine c_skip ?_
      refine q_then ?_
      refine c_seq ?_
      refine c_region ?_
      refine o_pure (p_move (v := .int .i64 (Rate.check0 b)) rfl) rfl rfl rfl ?_
      refine o_pure (p_assign (v := .int .i64 (Rate.check0 b)) rfl) rfl rfl rfl ?_
      refine o_nil ?_
      refine q_then ?_
      refine c_ret ?_
      refine q_end0 (v := .int .i64 (Rate.check0 b)) (rt1 rfl (r_tmp rfl)) (i := 1) rfl ?_
      congr 1
      grind [Rate.check0, Rate.check, Rate.bad, Rate.tick, Rate.some_, Rate.between]

set_option maxHeartbeats 8000000 in
set_option maxRecDepth 100000 in
theorem rateGo_ok (b : DBucket) (at_ : Int) (hy1 : b.every ≠ 0) : Fn0 Try.prog 39 [.agg #[.int .i64 b.most, .int .i64 b.every, .int .i64 b.has, .int .i64 b.at_], .int .i64 at_] (fun _ => True) (.agg #[.int .i64 ((Rate.rgo b at_).most), .int .i64 ((Rate.rgo b at_).every), .int .i64 ((Rate.rgo b at_).has), .int .i64 ((Rate.rgo b at_).at_)]) := by
  refine fn0 (nt := 54) (F0 := [(0, .agg #[.int .i64 b.most, .int .i64 b.every, .int .i64 b.has, .int .i64 b.at_]), (1, .int .i64 at_)]) Try.func39 rfl Try.ntmps39 rfl rfl (fun w0 hpre => ?_)
  refine c_seq ?_
  refine c_region ?_
  refine o_box (v := .agg #[.int .i64 b.most, .int .i64 b.every, .int .i64 b.has, .int .i64 b.at_]) rfl rfl (fun B1 => ?_)
  refine o_alloc ze53 rfl (fun B2 => ?_)
  refine o_nil ?_
  refine q_then ?_
  refine c_seq ?_
  refine c_region ?_
  refine o_pure (p_move (v := .int .i64 at_) rfl) rfl rfl rfl ?_
  refine o_pure (p_fieldAddr (B := B1) (j := 0) (j' := 3) rfl fo53_3 rfl) rfl rfl rfl ?_
  refine o_pure (p_load (i := 1) (v := .int .i64 b.at_) rfl rfl sh3 rfl) rfl rfl rfl ?_
  refine o_pure (p_sub (p := at_) (q := b.at_) rfl rfl) rfl rfl rfl ?_
  refine o_pure (p_assign (v := .int .i64 (IntKind.i64.wrap (at_ - b.at_))) rfl) rfl rfl rfl ?_
  refine o_nil ?_
  refine q_then ?_
  refine c_seq ?_
  refine c_region ?_
  refine o_pure (p_move (v := .int .i64 (IntKind.i64.wrap (at_ - b.at_))) rfl) rfl rfl rfl ?_
  refine o_pure (p_fieldAddr (B := B1) (j := 0) (j' := 1) rfl fo53_1 rfl) rfl rfl rfl ?_
  refine o_pure (p_load (i := 1) (v := .int .i64 b.every) rfl rfl sh3 rfl) rfl rfl rfl ?_
  refine o_pure (p_rem (p := (IntKind.i64.wrap (at_ - b.at_))) (q := b.every) rfl rfl (by omega)) rfl rfl rfl ?_
  refine o_pure (p_assign (v := .int .i64 ((IntKind.i64.wrap (at_ - b.at_)).tmod b.every)) rfl) rfl rfl rfl ?_
  refine o_nil ?_
  refine q_then ?_
  refine c_seq ?_
  refine c_region ?_
  refine o_pure (p_fieldAddr (B := B1) (j := 0) (j' := 0) rfl fo53_0 rfl) rfl rfl rfl ?_
  refine o_pure (p_load (i := 1) (v := .int .i64 b.most) rfl rfl sh3 rfl) rfl rfl rfl ?_
  refine o_pure (p_fieldAddr (B := B1) (j := 0) (j' := 2) rfl fo53_2 rfl) rfl rfl rfl ?_
  refine o_pure (p_load (i := 1) (v := .int .i64 b.has) rfl rfl sh3 rfl) rfl rfl rfl ?_
  refine o_pure (p_sub (p := b.most) (q := b.has) rfl rfl) rfl rfl rfl ?_
  refine o_pure (p_assign (v := .int .i64 (IntKind.i64.wrap (b.most - b.has))) rfl) rfl rfl rfl ?_
  refine o_nil ?_
  refine q_then ?_
  refine c_seq ?_
  refine c_seq ?_
  refine c_region ?_
  refine o_pure (p_move (v := .int .i64 (IntKind.i64.wrap (b.most - b.has))) rfl) rfl rfl rfl ?_
  refine o_pure (p_fieldAddr (B := B1) (j := 0) (j' := 1) rfl fo53_1 rfl) rfl rfl rfl ?_
  refine o_pure (p_load (i := 1) (v := .int .i64 b.every) rfl rfl sh3 rfl) rfl rfl rfl ?_
  refine o_pure (p_mul (p := (IntKind.i64.wrap (b.most - b.has))) (q := b.every) rfl rfl) rfl rfl rfl ?_
  refine o_pure (p_move (v := .int .i64 (IntKind.i64.wrap (at_ - b.at_))) rfl) rfl rfl rfl ?_
  refine o_pure (p_move (v := .int .i64 ((IntKind.i64.wrap (at_ - b.at_)).tmod b.every)) rfl) rfl rfl rfl ?_
  refine o_pure (p_sub (p := (IntKind.i64.wrap (at_ - b.at_))) (q := ((IntKind.i64.wrap (at_ - b.at_)).tmod b.every)) rfl rfl) rfl rfl rfl ?_
  refine o_pure (p_le (p := (IntKind.i64.wrap ((IntKind.i64.wrap (b.most - b.has)) * b.every))) (q := (IntKind.i64.wrap ((IntKind.i64.wrap (at_ - b.at_)) - ((IntKind.i64.wrap (at_ - b.at_)).tmod b.every)))) rfl rfl) rfl rfl rfl ?_
  refine o_nil ?_
  refine q_then ?_
  refine c_cond (b := decide ((IntKind.i64.wrap ((IntKind.i64.wrap (b.most - b.has)) * b.every)) ≤ (IntKind.i64.wrap ((IntKind.i64.wrap (at_ - b.at_)) - ((IntKind.i64.wrap (at_ - b.at_)).tmod b.every))))) rfl (fun hc3 => ?_) (fun hc3 => ?_)
  · simp only [decide_eq_true_eq] at hc3
    refine c_seq ?_
    refine c_region ?_
    refine o_pure (p_fieldAddr (B := B1) (j := 0) (j' := 0) rfl fo53_0 rfl) rfl rfl rfl ?_
    refine o_pure (p_load (i := 1) (v := .int .i64 b.most) rfl rfl sh3 rfl) rfl rfl rfl ?_
    refine o_pure (p_fieldAddr (B := B1) (j := 0) (j' := 1) rfl fo53_1 rfl) rfl rfl rfl ?_
    refine o_pure (p_load (i := 1) (v := .int .i64 b.every) rfl rfl sh3 rfl) rfl rfl rfl ?_
    refine o_pure (p_fieldAddr (B := B1) (j := 0) (j' := 0) rfl fo53_0 rfl) rfl rfl rfl ?_
    refine o_pure (p_load (i := 1) (v := .int .i64 b.most) rfl rfl sh3 rfl) rfl rfl rfl ?_
    refine o_pure (p_move (v := .int .i64 at_) rfl) rfl rfl rfl ?_
    refine o_pure (p_build (cells := [.int .i64 b.most, .int .i64 b.every, .int .i64 b.most, .int .i64 at_]) fp53 ze53 rfl rfl) rfl rfl rfl ?_
    refine o_storeN (i := 0) (vs := [.int .i64 b.most, .int .i64 b.every, .int .i64 b.most, .int .i64 at_]) (cs' := [.int .i64 b.most, .int .i64 b.every, .int .i64 b.most, .int .i64 at_]) rfl rfl rfl sz53 rfl rfl rfl rfl ?_
    refine o_nil ?_
    refine q_then ?_
    refine c_ret ?_
    refine q_then_ret ?_
    refine q_end0 (v := .agg #[.int .i64 b.most, .int .i64 b.every, .int .i64 b.most, .int .i64 at_]) (rt1 rfl (r_cell (i := 0) rfl rfl sh53 rfl)) (i := 2) rfl ?_
    simp only [Rate.rgo, Rate.left, Rate.rest]; grind
  · simp only [decide_eq_false_iff_not, Int.not_le] at hc3
    refine c_skip ?_
    refine q_then ?_
    refine c_seq ?_
    refine c_held hmix [box B1 [.int .i64 b.most, .int .i64 b.every, .int .i64 b.has, .int .i64 b.at_] 53, base w0] rfl rfl ?_
    refine h_take (i := 0) (ls := #[true, false, false, false, false, false, false, false, false, false, false, false, false, false, false, false, false, false]) rfl (by kernel_rfl) (by kernel_rfl) (by kernel_rfl) (fun _ _ _ h => h) (p_fieldAddr (B := B1) (j := 0) (j' := 0) rfl fo53_0 rfl) rfl rfl rfl (fun _ hw => HeapIs.drop hw (List.Sublist.cons _ (List.Sublist.cons_cons _ (List.Sublist.cons_cons _ (List.Sublist.slnil))))) rfl ?_
    refine h_take (i := 1) (ls := #[true, true, false, false, false, false, false, false, false, false, false, false, false, false, false, false, false, false]) rfl (by kernel_rfl) (by kernel_rfl) (by kernel_rfl) (fun _ _ _ h => h) (p_load (i := 0) (v := .int .i64 b.most) rfl rfl sh3 rfl) rfl rfl rfl (fun _ hw => HeapIs.drop hw (List.Sublist.cons _ (List.Sublist.cons_cons _ (List.Sublist.cons_cons _ (List.Sublist.slnil))))) rfl ?_
    refine h_take (i := 2) (ls := #[true, true, true, false, false, false, false, false, false, false, false, false, false, false, false, false, false, false]) rfl (by kernel_rfl) (by kernel_rfl) (by kernel_rfl) (fun _ _ _ h => h) (p_fieldAddr (B := B1) (j := 0) (j' := 1) rfl fo53_1 rfl) rfl rfl rfl (fun _ hw => HeapIs.drop hw (List.Sublist.cons _ (List.Sublist.cons_cons _ (List.Sublist.cons_cons _ (List.Sublist.slnil))))) rfl ?_
    refine h_take (i := 3) (ls := #[true, true, true, true, false, false, false, false, false, false, false, false, false, false, false, false, false, false]) rfl (by kernel_rfl) (by kernel_rfl) (by kernel_rfl) (fun _ _ _ h => h) (p_load (i := 0) (v := .int .i64 b.every) rfl rfl sh3 rfl) rfl rfl rfl (fun _ hw => HeapIs.drop hw (List.Sublist.cons _ (List.Sublist.cons_cons _ (List.Sublist.cons_cons _ (List.Sublist.slnil))))) rfl ?_
    refine h_take (i := 4) (ls := #[true, true, true, true, true, false, false, false, false, false, false, false, false, false, false, false, false, false]) rfl (by kernel_rfl) (by kernel_rfl) (by kernel_rfl) (fun _ _ _ h => h) (p_fieldAddr (B := B1) (j := 0) (j' := 2) rfl fo53_2 rfl) rfl rfl rfl (fun _ hw => HeapIs.drop hw (List.Sublist.cons _ (List.Sublist.cons_cons _ (List.Sublist.cons_cons _ (List.Sublist.slnil))))) rfl ?_
    refine h_take (i := 5) (ls := #[true, true, true, true, true, true, false, false, false, false, false, false, false, false, false, false, false, false]) rfl (by kernel_rfl) (by kernel_rfl) (by kernel_rfl) (fun _ _ _ h => h) (p_load (i := 0) (v := .int .i64 b.has) rfl rfl sh3 rfl) rfl rfl rfl (fun _ hw => HeapIs.drop hw (List.Sublist.cons _ (List.Sublist.cons_cons _ (List.Sublist.cons_cons _ (List.Sublist.slnil))))) rfl ?_
    refine h_take (i := 6) (ls := #[true, true, true, true, true, true, true, false, false, false, false, false, false, false, false, false, false, false]) rfl (by kernel_rfl) (by kernel_rfl) (by kernel_rfl) (fun _ _ _ h => h) (p_move (v := .int .i64 (IntKind.i64.wrap (at_ - b.at_))) rfl) rfl rfl rfl (fun _ hw => HeapIs.drop hw (List.Sublist.cons _ (List.Sublist.cons_cons _ (List.Sublist.cons_cons _ (List.Sublist.slnil))))) rfl ?_
    refine h_take (i := 7) (ls := #[true, true, true, true, true, true, true, true, false, false, false, false, false, false, false, false, false, false]) rfl (by kernel_rfl) (by kernel_rfl) (by kernel_rfl) (fun _ _ _ h => h) (p_move (v := .int .i64 ((IntKind.i64.wrap (at_ - b.at_)).tmod b.every)) rfl) rfl rfl rfl (fun _ hw => HeapIs.drop hw (List.Sublist.cons _ (List.Sublist.cons_cons _ (List.Sublist.cons_cons _ (List.Sublist.slnil))))) rfl ?_
    refine h_take (i := 8) (ls := #[true, true, true, true, true, true, true, true, true, false, false, false, false, false, false, false, false, false]) rfl (by kernel_rfl) (by kernel_rfl) (by kernel_rfl) (fun _ _ _ h => h) (p_sub (p := (IntKind.i64.wrap (at_ - b.at_))) (q := ((IntKind.i64.wrap (at_ - b.at_)).tmod b.every)) rfl rfl) rfl rfl rfl (fun _ hw => HeapIs.drop hw (List.Sublist.cons _ (List.Sublist.cons_cons _ (List.Sublist.cons_cons _ (List.Sublist.slnil))))) rfl ?_
    refine h_take (i := 9) (ls := #[true, true, true, true, true, true, true, true, true, true, false, false, false, false, false, false, false, false]) rfl (by kernel_rfl) (by kernel_rfl) (by kernel_rfl) (fun _ _ _ h => h) (p_fieldAddr (B := B1) (j := 0) (j' := 1) rfl fo53_1 rfl) rfl rfl rfl (fun _ hw => HeapIs.drop hw (List.Sublist.cons _ (List.Sublist.cons_cons _ (List.Sublist.cons_cons _ (List.Sublist.slnil))))) rfl ?_
    refine h_take (i := 10) (ls := #[true, true, true, true, true, true, true, true, true, true, true, false, false, false, false, false, false, false]) rfl (by kernel_rfl) (by kernel_rfl) (by kernel_rfl) (fun _ _ _ h => h) (p_load (i := 0) (v := .int .i64 b.every) rfl rfl sh3 rfl) rfl rfl rfl (fun _ hw => HeapIs.drop hw (List.Sublist.cons _ (List.Sublist.cons_cons _ (List.Sublist.cons_cons _ (List.Sublist.slnil))))) rfl ?_
    refine h_take (i := 11) (ls := #[true, true, true, true, true, true, true, true, true, true, true, true, false, false, false, false, false, false]) rfl (by kernel_rfl) (by kernel_rfl) (by kernel_rfl) (fun _ _ _ h => h) (p_quo (p := (IntKind.i64.wrap ((IntKind.i64.wrap (at_ - b.at_)) - ((IntKind.i64.wrap (at_ - b.at_)).tmod b.every)))) (q := b.every) rfl rfl (by omega)) rfl rfl rfl (fun _ hw => HeapIs.drop hw (List.Sublist.cons _ (List.Sublist.cons_cons _ (List.Sublist.cons_cons _ (List.Sublist.slnil))))) rfl ?_
    refine h_take (i := 12) (ls := #[true, true, true, true, true, true, true, true, true, true, true, true, true, false, false, false, false, false]) rfl (by kernel_rfl) (by kernel_rfl) (by kernel_rfl) (fun _ _ _ h => h) (p_add (p := b.has) (q := (IntKind.i64.wrap ((IntKind.i64.wrap ((IntKind.i64.wrap (at_ - b.at_)) - ((IntKind.i64.wrap (at_ - b.at_)).tmod b.every))).tdiv b.every))) rfl rfl) rfl rfl rfl (fun _ hw => HeapIs.drop hw (List.Sublist.cons _ (List.Sublist.cons_cons _ (List.Sublist.cons_cons _ (List.Sublist.slnil))))) rfl ?_
    refine h_take (i := 13) (ls := #[true, true, true, true, true, true, true, true, true, true, true, true, true, true, false, false, false, false]) rfl (by kernel_rfl) (by kernel_rfl) (by kernel_rfl) (fun _ _ _ h => h) (p_move (v := .int .i64 at_) rfl) rfl rfl rfl (fun _ hw => HeapIs.drop hw (List.Sublist.cons _ (List.Sublist.cons_cons _ (List.Sublist.cons_cons _ (List.Sublist.slnil))))) rfl ?_
    refine h_take (i := 14) (ls := #[true, true, true, true, true, true, true, true, true, true, true, true, true, true, true, false, false, false]) rfl (by kernel_rfl) (by kernel_rfl) (by kernel_rfl) (fun _ _ _ h => h) (p_move (v := .int .i64 ((IntKind.i64.wrap (at_ - b.at_)).tmod b.every)) rfl) rfl rfl rfl (fun _ hw => HeapIs.drop hw (List.Sublist.cons _ (List.Sublist.cons_cons _ (List.Sublist.cons_cons _ (List.Sublist.slnil))))) rfl ?_
    refine h_take (i := 15) (ls := #[true, true, true, true, true, true, true, true, true, true, true, true, true, true, true, true, false, false]) rfl (by kernel_rfl) (by kernel_rfl) (by kernel_rfl) (fun _ _ _ h => h) (p_sub (p := at_) (q := ((IntKind.i64.wrap (at_ - b.at_)).tmod b.every)) rfl rfl) rfl rfl rfl (fun _ hw => HeapIs.drop hw (List.Sublist.cons _ (List.Sublist.cons_cons _ (List.Sublist.cons_cons _ (List.Sublist.slnil))))) rfl ?_
    refine h_take (i := 16) (ls := #[true, true, true, true, true, true, true, true, true, true, true, true, true, true, true, true, true, false]) rfl (by kernel_rfl) (by kernel_rfl) (by kernel_rfl) (fun _ _ _ h => h) (p_build (cells := [.int .i64 b.most, .int .i64 b.every, .int .i64 (IntKind.i64.wrap (b.has + (IntKind.i64.wrap ((IntKind.i64.wrap ((IntKind.i64.wrap (at_ - b.at_)) - ((IntKind.i64.wrap (at_ - b.at_)).tmod b.every))).tdiv b.every)))), .int .i64 (IntKind.i64.wrap (at_ - ((IntKind.i64.wrap (at_ - b.at_)).tmod b.every)))]) fp53 ze53 rfl rfl) rfl rfl rfl (fun _ hw => HeapIs.drop hw (List.Sublist.cons _ (List.Sublist.cons_cons _ (List.Sublist.cons_cons _ (List.Sublist.slnil))))) rfl ?_
    refine h_one (i := 17) (ls := #[true, true, true, true, true, true, true, true, true, true, true, true, true, true, true, true, true, true]) (by kernel_rfl) rfl rfl ?_
    refine o_storeN (i := 0) (vs := [.int .i64 b.most, .int .i64 b.every, .int .i64 (IntKind.i64.wrap (b.has + (IntKind.i64.wrap ((IntKind.i64.wrap ((IntKind.i64.wrap (at_ - b.at_)) - ((IntKind.i64.wrap (at_ - b.at_)).tmod b.every))).tdiv b.every)))), .int .i64 (IntKind.i64.wrap (at_ - ((IntKind.i64.wrap (at_ - b.at_)).tmod b.every)))]) (cs' := [.int .i64 b.most, .int .i64 b.every, .int .i64 (IntKind.i64.wrap (b.has + (IntKind.i64.wrap ((IntKind.i64.wrap ((IntKind.i64.wrap (at_ - b.at_)) - ((IntKind.i64.wrap (at_ - b.at_)).tmod b.every))).tdiv b.every)))), .int .i64 (IntKind.i64.wrap (at_ - ((IntKind.i64.wrap (at_ - b.at_)).tmod b.every)))]) rfl rfl rfl sz53 rfl rfl rfl rfl ?_
    refine o_nil ?_
    refine h_next (fun _ hw => HeapIs.drop hw (List.Sublist.cons _ (List.Sublist.cons_cons _ (List.Sublist.cons_cons _ (List.Sublist.slnil))))) ?_
    refine h_done (by kernel_rfl) ?_
    refine q_then ?_
    refine c_ret ?_
    refine q_end0 (v := .agg #[.int .i64 b.most, .int .i64 b.every, .int .i64 (IntKind.i64.wrap (b.has + (IntKind.i64.wrap ((IntKind.i64.wrap ((IntKind.i64.wrap (at_ - b.at_)) - ((IntKind.i64.wrap (at_ - b.at_)).tmod b.every))).tdiv b.every)))), .int .i64 (IntKind.i64.wrap (at_ - ((IntKind.i64.wrap (at_ - b.at_)).tmod b.every)))]) (rt1 rfl (r_cell (i := 0) rfl rfl sh53 rfl)) (i := 2) rfl ?_
    simp only [Rate.rgo, Rate.left, Rate.rest]; grind
end Go.Proofs.Ythbfdhphnofacaa
