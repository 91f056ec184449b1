/- The walks, printed by a program from the translation and a specification. -/
import Derived.Test.YthbfdhphnofacaaRtF
import Derived.Test.YthbfdhphnofacaaRtPure
namespace Go.Proofs.Ythbfdhphnofacaa
open Go.Sx Go.RowKit
set_option maxHeartbeats 8000000 in
set_option maxRecDepth 100000 in
theorem tick_ok (n : Int) : Fn0 Try.prog 54 [.int .i64 n] (fun _ => True) (.bool (Rate.tick n)) := by
  refine fn0 (nt := 9) (F0 := [(0, .int .i64 n)]) Try.func54 rfl Try.ntmps54 rfl rfl (fun w0 hpre => ?_)
  refine c_seq ?_
  refine c_region ?_
  refine o_pure (p_assign (v := .bool false) rfl) rfl rfl rfl ?_
  refine o_nil ?_
  refine q_then ?_
  refine c_seq ?_
  refine c_region ?_
  refine o_pure (p_move (v := .int .i64 n) rfl) rfl rfl rfl ?_
  refine o_pure (p_ge (p := n) (q := 0) rfl rfl) rfl rfl rfl ?_
  refine o_pure (p_move (v := .bool (decide (0 ≤ n))) rfl) rfl rfl rfl ?_
  refine o_and (p := 8) 3 (decide (n ≤ 1099511627776)) ?_ ?_ ?_
  · intro hb1 hk
    simp only [decide_eq_true_eq] at hb1
    refine o_unguard 5 rfl rfl ?_
    refine o_pure (p_move (v := .int .i64 n) rfl) rfl rfl rfl ?_
    refine o_unguard 5 rfl rfl ?_
    refine o_pure (p_le (p := n) (q := 1099511627776) rfl rfl) rfl rfl rfl ?_
    refine o_pure (p_pick_true (u := .bool (decide (n ≤ 1099511627776))) rfl rfl) rfl rfl rfl ?_
    exact o_sub (Sub.cons rfl (Sub.skip rfl (Sub.skip rfl (Sub.skip rfl (Sub.skip rfl (Sub.refl _)))))) hk
  · intro hb1 hk
    refine o_guard_no rfl 5 rfl rfl rfl rfl rfl ?_
    refine o_guard_no rfl 5 rfl rfl rfl rfl rfl ?_
    refine o_pure (p_pick_false (v := .bool false) rfl rfl) rfl rfl rfl ?_
    exact o_sub (Sub.cons rfl (Sub.skip rfl (Sub.skip rfl (Sub.skip rfl (Sub.skip rfl (Sub.refl _)))))) hk
  refine o_pure (p_assign (v := .bool (decide (0 ≤ n) && decide (n ≤ 1099511627776))) rfl) rfl rfl rfl ?_
  refine o_nil ?_
  refine q_then ?_
  refine c_ret ?_
  refine q_end0 (v := .bool (decide (0 ≤ n) && decide (n ≤ 1099511627776))) (rt1 rfl (r_tmp rfl)) (i := 0) rfl ?_
  rfl

set_option maxHeartbeats 8000000 in
set_option maxRecDepth 100000 in
theorem some__ok (n : Int) : Fn0 Try.prog 53 [.int .i64 n] (fun _ => True) (.bool (Rate.some_ n)) := by
  refine fn0 (nt := 9) (F0 := [(0, .int .i64 n)]) Try.func53 rfl Try.ntmps53 rfl rfl (fun w0 hpre => ?_)
  refine c_seq ?_
  refine c_region ?_
  refine o_pure (p_assign (v := .bool false) rfl) rfl rfl rfl ?_
  refine o_nil ?_
  refine q_then ?_
  refine c_seq ?_
  refine c_region ?_
  refine o_pure (p_move (v := .int .i64 n) rfl) rfl rfl rfl ?_
  refine o_pure (p_ge (p := n) (q := 1) rfl rfl) rfl rfl rfl ?_
  refine o_pure (p_move (v := .bool (decide (1 ≤ n))) rfl) rfl rfl rfl ?_
  refine o_and (p := 8) 3 (decide (n ≤ 1048576)) ?_ ?_ ?_
  · intro hb1 hk
    simp only [decide_eq_true_eq] at hb1
    refine o_unguard 5 rfl rfl ?_
    refine o_pure (p_move (v := .int .i64 n) rfl) rfl rfl rfl ?_
    refine o_unguard 5 rfl rfl ?_
    refine o_pure (p_le (p := n) (q := 1048576) rfl rfl) rfl rfl rfl ?_
    refine o_pure (p_pick_true (u := .bool (decide (n ≤ 1048576))) rfl rfl) rfl rfl rfl ?_
    exact o_sub (Sub.cons rfl (Sub.skip rfl (Sub.skip rfl (Sub.skip rfl (Sub.skip rfl (Sub.refl _)))))) hk
  · intro hb1 hk
    refine o_guard_no rfl 5 rfl rfl rfl rfl rfl ?_
    refine o_guard_no rfl 5 rfl rfl rfl rfl rfl ?_
    refine o_pure (p_pick_false (v := .bool false) rfl rfl) rfl rfl rfl ?_
    exact o_sub (Sub.cons rfl (Sub.skip rfl (Sub.skip rfl (Sub.skip rfl (Sub.skip rfl (Sub.refl _)))))) hk
  refine o_pure (p_assign (v := .bool (decide (1 ≤ n) && decide (n ≤ 1048576))) rfl) rfl rfl rfl ?_
  refine o_nil ?_
  refine q_then ?_
  refine c_ret ?_
  refine q_end0 (v := .bool (decide (1 ≤ n) && decide (n ≤ 1048576))) (rt1 rfl (r_tmp rfl)) (i := 0) rfl ?_
  rfl

set_option maxHeartbeats 8000000 in
set_option maxRecDepth 100000 in
theorem between_ok (n : Int) (a : Int) (b : Int) : Fn0 Try.prog 49 [.int .i64 n, .int .i64 a, .int .i64 b] (fun _ => True) (.bool (Rate.between n a b)) := by
  refine fn0 (nt := 15) (F0 := [(0, .int .i64 n), (1, .int .i64 a), (2, .int .i64 b)]) Try.func49 rfl Try.ntmps49 rfl rfl (fun w0 hpre => ?_)
  refine c_seq ?_
  refine c_region ?_
  refine o_pure (p_assign (v := .bool false) rfl) rfl rfl rfl ?_
  refine o_nil ?_
  refine q_then ?_
  refine c_seq ?_
  refine c_region ?_
  refine o_pure (p_move (v := .int .i64 n) rfl) rfl rfl rfl ?_
  refine o_pure (p_move (v := .int .i64 a) rfl) rfl rfl rfl ?_
  refine o_pure (p_ge (p := n) (q := a) rfl rfl) rfl rfl rfl ?_
  refine o_pure (p_move (v := .bool (decide (a ≤ n))) rfl) rfl rfl rfl ?_
  refine o_and (p := 14) 4 (decide (n ≤ b)) ?_ ?_ ?_
  · intro hb1 hk
    simp only [decide_eq_true_eq] at hb1
    refine o_unguard 10 rfl rfl ?_
    refine o_pure (p_move (v := .int .i64 n) rfl) rfl rfl rfl ?_
    refine o_unguard 10 rfl rfl ?_
    refine o_pure (p_move (v := .int .i64 b) rfl) rfl rfl rfl ?_
    refine o_unguard 10 rfl rfl ?_
    refine o_pure (p_le (p := n) (q := b) rfl rfl) rfl rfl rfl ?_
    refine o_pure (p_pick_true (u := .bool (decide (n ≤ b))) rfl rfl) rfl rfl rfl ?_
    exact o_sub (Sub.cons rfl (Sub.skip rfl (Sub.skip rfl (Sub.skip rfl (Sub.skip rfl (Sub.skip rfl (Sub.refl _))))))) hk
  · intro hb1 hk
    refine o_guard_no rfl 10 rfl rfl rfl rfl rfl ?_
    refine o_guard_no rfl 10 rfl rfl rfl rfl rfl ?_
    refine o_guard_no rfl 10 rfl rfl rfl rfl rfl ?_
    refine o_pure (p_pick_false (v := .bool false) rfl rfl) rfl rfl rfl ?_
    exact o_sub (Sub.cons rfl (Sub.skip rfl (Sub.skip rfl (Sub.skip rfl (Sub.skip rfl (Sub.skip rfl (Sub.refl _))))))) hk
  refine o_pure (p_assign (v := .bool (decide (a ≤ n) && decide (n ≤ b))) rfl) rfl rfl rfl ?_
  refine o_nil ?_
  refine q_then ?_
  refine c_ret ?_
  refine q_end0 (v := .bool (decide (a ≤ n) && decide (n ≤ b))) (rt1 rfl (r_tmp rfl)) (i := 0) rfl ?_
  rfl

set_option maxHeartbeats 8000000 in
set_option maxRecDepth 100000 in
theorem check0_ok (b : DBucket) : Fn0 Try.prog 41 [.agg #[.int .i64 b.most, .int .i64 b.every, .int .i64 b.has, .int .i64 b.at_]] (fun _ => True) (.int .i64 (Rate.check0 b)) := by
  refine fn0 (nt := 31) (F0 := [(0, .agg #[.int .i64 b.most, .int .i64 b.every, .int .i64 b.has, .int .i64 b.at_])]) Try.func41 rfl Try.ntmps41 rfl rfl (fun w0 hpre => ?_)
  refine c_seq ?_
  refine c_region ?_
  refine o_box (v := .agg #[.int .i64 b.most, .int .i64 b.every, .int .i64 b.has, .int .i64 b.at_]) rfl rfl (fun B1 => ?_)
  refine o_pure (p_assign (v := .int .i64 0) rfl) rfl rfl rfl ?_
  refine o_nil ?_
  refine q_then ?_
  refine c_seq ?_
  refine c_seq ?_
  refine c_region ?_
  refine o_pure (p_fieldAddr (B := B1) (j := 0) (j' := 0) rfl fo53_0 rfl) rfl rfl rfl ?_
  refine o_pure (p_load (i := 0) (v := .int .i64 b.most) rfl rfl sh3 rfl) rfl rfl rfl ?_
  refine o_call0 (v := .bool (Rate.some_ b.most)) rfl (some__ok b.most) hf53 (fun _ _ => trivial) rfl ?_
  refine o_pure (p_not (b := (Rate.some_ b.most)) rfl) rfl rfl rfl ?_
  refine o_pure (p_move (v := .bool (!(Rate.some_ b.most))) rfl) rfl rfl rfl ?_
  refine o_or (p := 12) 5 (!(Rate.some_ b.every)) ?_ ?_ ?_
  · intro hb2 hk
    simp only [Bool.not_eq_false'] at hb2
    refine o_unguard 7 rfl rfl ?_
    refine o_pure (p_fieldAddr (B := B1) (j := 0) (j' := 1) rfl fo53_1 rfl) rfl rfl rfl ?_
    refine o_unguard 7 rfl rfl ?_
    refine o_pure (p_load (i := 0) (v := .int .i64 b.every) rfl rfl sh3 rfl) rfl rfl rfl ?_
    refine o_unguard 7 rfl rfl ?_
    refine o_call0 (v := .bool (Rate.some_ b.every)) rfl (some__ok b.every) hf53 (fun _ _ => trivial) rfl ?_
    refine o_unguard 7 rfl rfl ?_
    refine o_pure (p_not (b := (Rate.some_ b.every)) rfl) rfl rfl rfl ?_
    refine o_pure (p_pick_false (v := .bool (!(Rate.some_ b.every))) rfl rfl) rfl rfl rfl ?_
    exact o_sub (Sub.cons rfl (Sub.skip rfl (Sub.skip rfl (Sub.skip rfl (Sub.skip rfl (Sub.skip rfl (Sub.skip rfl (Sub.refl _)))))))) hk
  · intro hb2 hk
    refine o_guard_no rfl 7 rfl rfl rfl rfl rfl ?_
    refine o_guard_no rfl 7 rfl rfl rfl rfl rfl ?_
    refine o_guard_no rfl 7 rfl rfl rfl rfl rfl ?_
    refine o_guard_no rfl 7 rfl rfl rfl rfl rfl ?_
    refine o_pure (p_pick_true (u := .bool true) rfl rfl) rfl rfl rfl ?_
    exact o_sub (Sub.cons rfl (Sub.skip rfl (Sub.skip rfl (Sub.skip rfl (Sub.skip rfl (Sub.skip rfl (Sub.skip rfl (Sub.refl _)))))))) hk
  refine o_pure (p_move (v := .bool ((!(Rate.some_ b.most)) || (!(Rate.some_ b.every)))) rfl) rfl rfl rfl ?_
  refine o_or (p := 17) 4 (decide (b.has < 0)) ?_ ?_ ?_
  · intro hb3 hk
    simp only [Bool.or_eq_false_iff, Bool.not_eq_false'] at hb3
    refine o_unguard 13 rfl rfl ?_
    refine o_pure (p_fieldAddr (B := B1) (j := 0) (j' := 2) rfl fo53_2 rfl) rfl rfl rfl ?_
    refine o_unguard 13 rfl rfl ?_
    refine o_pure (p_load (i := 0) (v := .int .i64 b.has) rfl rfl sh3 rfl) rfl rfl rfl ?_
    refine o_unguard 13 rfl rfl ?_
    refine o_pure (p_lt (p := b.has) (q := 0) rfl rfl) rfl rfl rfl ?_
    refine o_pure (p_pick_false (v := .bool (decide (b.has < 0))) rfl rfl) rfl rfl rfl ?_
    exact o_sub (Sub.cons rfl (Sub.skip rfl (Sub.skip rfl (Sub.skip rfl (Sub.skip rfl (Sub.skip rfl (Sub.refl _))))))) hk
  · intro hb3 hk
    refine o_guard_no rfl 13 rfl rfl rfl rfl rfl ?_
    refine o_guard_no rfl 13 rfl rfl rfl rfl rfl ?_
    refine o_guard_no rfl 13 rfl rfl rfl rfl rfl ?_
    refine o_pure (p_pick_true (u := .bool true) rfl rfl) rfl rfl rfl ?_
    exact o_sub (Sub.cons rfl (Sub.skip rfl (Sub.skip rfl (Sub.skip rfl (Sub.skip rfl (Sub.skip rfl (Sub.refl _))))))) hk
  refine o_pure (p_move (v := .bool (((!(Rate.some_ b.most)) || (!(Rate.some_ b.every))) || decide (b.has < 0))) rfl) rfl rfl rfl ?_
  refine o_or (p := 24) 6 (decide (b.most < b.has)) ?_ ?_ ?_
  · intro hb4 hk
    simp only [Bool.or_eq_false_iff, Bool.not_eq_false', decide_eq_false_iff_not, Int.not_lt] at hb4
    refine o_unguard 18 rfl rfl ?_
    refine o_pure (p_fieldAddr (B := B1) (j := 0) (j' := 2) rfl fo53_2 rfl) rfl rfl rfl ?_
    refine o_unguard 18 rfl rfl ?_
    refine o_pure (p_load (i := 0) (v := .int .i64 b.has) rfl rfl sh3 rfl) rfl rfl rfl ?_
    refine o_unguard 18 rfl rfl ?_
    refine o_pure (p_fieldAddr (B := B1) (j := 0) (j' := 0) rfl fo53_0 rfl) rfl rfl rfl ?_
    refine o_unguard 18 rfl rfl ?_
    refine o_pure (p_load (i := 0) (v := .int .i64 b.most) rfl rfl sh3 rfl) rfl rfl rfl ?_
    refine o_unguard 18 rfl rfl ?_
    refine o_pure (p_gt (p := b.has) (q := b.most) rfl rfl) rfl rfl rfl ?_
    refine o_pure (p_pick_false (v := .bool (decide (b.most < b.has))) rfl rfl) rfl rfl rfl ?_
    exact o_sub (Sub.cons rfl (Sub.skip rfl (Sub.skip rfl (Sub.skip rfl (Sub.skip rfl (Sub.skip rfl (Sub.skip rfl (Sub.skip rfl (Sub.refl _))))))))) hk
  · intro hb4 hk
    refine o_guard_no rfl 18 rfl rfl rfl rfl rfl ?_
    refine o_guard_no rfl 18 rfl rfl rfl rfl rfl ?_
    refine o_guard_no rfl 18 rfl rfl rfl rfl rfl ?_
    refine o_guard_no rfl 18 rfl rfl rfl rfl rfl ?_
    refine o_guard_no rfl 18 rfl rfl rfl rfl rfl ?_
    refine o_pure (p_pick_true (u := .bool true) rfl rfl) rfl rfl rfl ?_
    exact o_sub (Sub.cons rfl (Sub.skip rfl (Sub.skip rfl (Sub.skip rfl (Sub.skip rfl (Sub.skip rfl (Sub.skip rfl (Sub.skip rfl (Sub.refl _))))))))) hk
  refine o_pure (p_move (v := .bool ((((!(Rate.some_ b.most)) || (!(Rate.some_ b.every))) || decide (b.has < 0)) || decide (b.most < b.has))) rfl) rfl rfl rfl ?_
  refine o_or (p := 30) 5 (!(Rate.tick b.at_)) ?_ ?_ ?_
  · intro hb5 hk
    simp only [Bool.or_eq_false_iff, Bool.not_eq_false', decide_eq_false_iff_not, Int.not_lt] at hb5
    refine o_unguard 25 rfl rfl ?_
    refine o_pure (p_fieldAddr (B := B1) (j := 0) (j' := 3) rfl fo53_3 rfl) rfl rfl rfl ?_
    refine o_unguard 25 rfl rfl ?_
    refine o_pure (p_load (i := 0) (v := .int .i64 b.at_) rfl rfl sh3 rfl) rfl rfl rfl ?_
    refine o_unguard 25 rfl rfl ?_
    refine o_call0 (v := .bool (Rate.tick b.at_)) rfl (tick_ok b.at_) hf54 (fun _ _ => trivial) rfl ?_
    refine o_unguard 25 rfl rfl ?_
    refine o_pure (p_not (b := (Rate.tick b.at_)) rfl) rfl rfl rfl ?_
    refine o_pure (p_pick_false (v := .bool (!(Rate.tick b.at_))) rfl rfl) rfl rfl rfl ?_
    exact o_sub (Sub.cons rfl (Sub.skip rfl (Sub.skip rfl (Sub.skip rfl (Sub.skip rfl (Sub.skip rfl (Sub.skip rfl (Sub.refl _)))))))) hk
  · intro hb5 hk
    refine o_guard_no rfl 25 rfl rfl rfl rfl rfl ?_
    refine o_guard_no rfl 25 rfl rfl rfl rfl rfl ?_
    refine o_guard_no rfl 25 rfl rfl rfl rfl rfl ?_
    refine o_guard_no rfl 25 rfl rfl rfl rfl rfl ?_
    refine o_pure (p_pick_true (u := .bool true) rfl rfl) rfl rfl rfl ?_
    exact o_sub (Sub.cons rfl (Sub.skip rfl (Sub.skip rfl (Sub.skip rfl (Sub.skip rfl (Sub.skip rfl (Sub.skip rfl (Sub.refl _)))))))) hk
  refine o_nil ?_
  refine q_then ?_
  refine c_cond (b := (((((!(Rate.some_ b.most)) || (!(Rate.some_ b.every))) || decide (b.has < 0)) || decide (b.most < b.has)) || (!(Rate.tick b.at_)))) rfl (fun hc6 => ?_) (fun hc6 => ?_)
  · simp only [Bool.or_eq_true, Bool.not_eq_true', decide_eq_true_eq] at hc6
    refine c_seq ?_
    refine c_region ?_
    refine o_pure (p_assign (v := .int .i64 3) rfl) rfl rfl rfl ?_
    refine o_nil ?_
    refine q_then ?_
    refine c_ret ?_
    refine q_then_ret ?_
    refine q_end0 (v := .int .i64 3) (rt1 rfl (r_tmp rfl)) (i := 1) rfl ?_
    congr 1
    grind [Rate.check0, Rate.check, Rate.bad, Rate.tick, Rate.some_, Rate.between]
  · simp only [Bool.or_eq_false_iff, Bool.not_eq_false', decide_eq_false_iff_not, Int.not_lt] at hc6
    refine c_skip ?_
    refine q_then ?_
    refine c_seq ?_
    refine c_region ?_
    refine o_pure (p_assign (v := .int .i64 0) rfl) rfl rfl rfl ?_
    refine o_nil ?_
    refine q_then ?_
    refine c_ret ?_
    refine q_end0 (v := .int .i64 0) (rt1 rfl (r_tmp rfl)) (i := 1) rfl ?_
    congr 1
    grind [Rate.check0, Rate.check, Rate.bad, Rate.tick, Rate.some_, Rate.between]

set_option maxHeartbeats 8000000 in
set_option maxRecDepth 100000 in
theorem check_ok (b : DBucket) (at_ : Int) : Fn0 Try.prog 51 [.agg #[.int .i64 b.most, .int .i64 b.every, .int .i64 b.has, .int .i64 b.at_], .int .i64 at_] (fun _ => True) (.int .i64 (Rate.check b at_)) := by
  refine fn0 (nt := 21) (F0 := [(0, .agg #[.int .i64 b.most, .int .i64 b.every, .int .i64 b.has, .int .i64 b.at_]), (1, .int .i64 at_)]) Try.func51 rfl Try.ntmps51 rfl rfl (fun w0 hpre => ?_)
  refine c_seq ?_
  refine c_region ?_
  refine o_box (v := .agg #[.int .i64 b.most, .int .i64 b.every, .int .i64 b.has, .int .i64 b.at_]) rfl rfl (fun B1 => ?_)
  refine o_pure (p_assign (v := .int .i64 0) rfl) rfl rfl rfl ?_
  refine o_nil ?_
  refine q_then ?_
  refine c_seq ?_
  refine c_region ?_
  refine o_pure (p_load_agg (i := 0) (vs := [.int .i64 b.most, .int .i64 b.every, .int .i64 b.has, .int .i64 b.at_]) rfl rfl sh53 rfl rfl) rfl rfl rfl ?_
  refine o_call0 (v := .int .i64 (Rate.check0 b)) rfl (check0_ok b) hf41 (fun _ _ => trivial) rfl ?_
  refine o_pure (p_assign (v := .int .i64 (Rate.check0 b)) rfl) rfl rfl rfl ?_
  refine o_nil ?_
  refine q_then ?_
  refine c_seq ?_
  refine c_block ?_
  refine c_seq ?_
  refine c_region ?_
  refine o_pure (p_move (v := .int .i64 (Rate.check0 b)) rfl) rfl rfl rfl ?_
  refine o_pure (p_ne (p := (Rate.check0 b)) (q := 0) rfl rfl) rfl rfl rfl ?_
  refine o_pure (p_assign (v := .bool ((Rate.check0 b) != 0)) rfl) rfl rfl rfl ?_
  refine o_nil ?_
  refine q_then ?_
  refine c_cond (b := ((Rate.check0 b) != 0)) rfl (fun hc2 => ?_) (fun hc2 => ?_)
  · simp only [bne_iff_ne, ne_eq] at hc2
    refine c_seq ?_
    refine c_region ?_
    refine o_pure (p_move (v := .int .i64 (Rate.check0 b)) rfl) rfl rfl rfl ?_
    refine o_pure (p_assign (v := .int .i64 (Rate.check0 b)) rfl) rfl rfl rfl ?_
    refine o_nil ?_
    refine q_then ?_
    refine c_ret ?_
    refine q_block_ret (q_then_ret ?_)
    refine q_end0 (v := .int .i64 (Rate.check0 b)) (rt1 rfl (r_tmp rfl)) (i := 1) rfl ?_
    congr 1
    grind [Rate.check0, Rate.check, Rate.bad, Rate.tick, Rate.some_, Rate.between]
  · simp only [bne_eq_false_iff_eq] at hc2
    refine c_seq ?_
    refine c_region ?_
    refine o_pure (p_move (v := .int .i64 at_) rfl) rfl rfl rfl ?_
    refine o_call0 (v := .bool (Rate.tick at_)) rfl (tick_ok at_) hf54 (fun _ _ => trivial) rfl ?_
    refine o_pure (p_not (b := (Rate.tick at_)) rfl) rfl rfl rfl ?_
    refine o_pure (p_assign (v := .bool (!(Rate.tick at_))) rfl) rfl rfl rfl ?_
    refine o_nil ?_
    refine q_then ?_
    refine c_cond (b := (!(Rate.tick at_))) rfl (fun hc3 => ?_) (fun hc3 => ?_)
    · simp only [Bool.not_eq_true'] at hc3
      refine c_seq ?_
      refine c_region ?_
      refine o_pure (p_assign (v := .int .i64 3) rfl) rfl rfl rfl ?_
      refine o_nil ?_
      refine q_then ?_
      refine c_ret ?_
      refine q_block_ret (q_then_ret ?_)
      refine q_end0 (v := .int .i64 3) (rt1 rfl (r_tmp rfl)) (i := 1) rfl ?_
      congr 1
      grind [Rate.check0, Rate.check, Rate.bad, Rate.tick, Rate.some_, Rate.between]
    · simp only [Bool.not_eq_false'] at hc3
      refine c_seq ?_
      refine c_region ?_
      refine o_pure (p_move (v := .int .i64 at_) rfl) rfl rfl rfl ?_
      refine o_pure (p_fieldAddr (B := B1) (j := 0) (j' := 3) rfl fo53_3 rfl) rfl rfl rfl ?_
      refine o_pure (p_load (i := 0) (v := .int .i64 b.at_) rfl rfl sh3 rfl) rfl rfl rfl ?_
      refine o_pure (p_lt (p := at_) (q := b.at_) rfl rfl) rfl rfl rfl ?_
      refine o_pure (p_assign (v := .bool (decide (at_ < b.at_))) rfl) rfl rfl rfl ?_
      refine o_nil ?_
      refine q_then ?_
      refine c_cond (b := decide (at_ < b.at_)) rfl (fun hc4 => ?_) (fun hc4 => ?_)
      · simp only [decide_eq_true_eq] at hc4
        refine c_seq ?_
        refine c_region ?_
        refine o_pure (p_assign (v := .int .i64 4) rfl) rfl rfl rfl ?_
        refine o_nil ?_
        refine q_then ?_
        refine c_ret ?_
        refine q_block_ret (q_then_ret ?_)
        refine q_end0 (v := .int .i64 4) (rt1 rfl (r_tmp rfl)) (i := 1) rfl ?_
        congr 1
        grind [Rate.check0, Rate.check, Rate.bad, Rate.tick, Rate.some_, Rate.between]
      · simp only [decide_eq_false_iff_not, Int.not_lt] at hc4
        refine c_skip ?_
        refine q_block_normal (q_then ?_)
        refine c_seq ?_
        refine c_region ?_
        refine o_pure (p_assign (v := .int .i64 0) rfl) rfl rfl rfl ?_
        refine o_nil ?_
        refine q_then ?_
        refine c_ret ?_
        refine q_end0 (v := .int .i64 0) (rt1 rfl (r_tmp rfl)) (i := 1) rfl ?_
        congr 1
        grind [Rate.check0, Rate.check, Rate.bad, Rate.tick, Rate.some_, Rate.between]

set_option maxHeartbeats 8000000 in
set_option maxRecDepth 100000 in
theorem new_ok (most : Int) (every : Int) (at_ : Int) : Fn0 Try.prog 33 [.int .i64 most, .int .i64 every, .int .i64 at_] (fun _ => True) (.tuple #[.agg #[.int .i64 ((Rate.new most every at_).most), .int .i64 ((Rate.new most every at_).every), .int .i64 ((Rate.new most every at_).has), .int .i64 ((Rate.new most every at_).at_)], .int .i64 (Rate.check0 (Rate.full most every at_))]) := by
  refine fn0 (nt := 22) (F0 := [(0, .int .i64 most), (1, .int .i64 every), (2, .int .i64 at_)]) Try.func33 rfl Try.ntmps33 rfl rfl (fun w0 hpre => ?_)
  refine c_seq ?_
  refine c_region ?_
  refine o_alloc ze53 rfl (fun B1 => ?_)
  refine o_pure (p_assign (v := .int .i64 0) rfl) rfl rfl rfl ?_
  refine o_nil ?_
  refine q_then ?_
  refine c_seq ?_
  refine c_region ?_
  refine o_pure (p_move (v := .int .i64 most) rfl) rfl rfl rfl ?_
  refine o_pure (p_move (v := .int .i64 every) rfl) rfl rfl rfl ?_
  refine o_pure (p_move (v := .int .i64 most) rfl) rfl rfl rfl ?_
  refine o_pure (p_move (v := .int .i64 at_) rfl) rfl rfl rfl ?_
  refine o_pure (p_build (cells := [.int .i64 most, .int .i64 every, .int .i64 most, .int .i64 at_]) fp53 ze53 rfl rfl) rfl rfl rfl ?_
  refine o_alloc ze53 rfl (fun B2 => ?_)
  refine o_storeN (i := 0) (vs := [.int .i64 most, .int .i64 every, .int .i64 most, .int .i64 at_]) (cs' := [.int .i64 most, .int .i64 every, .int .i64 most, .int .i64 at_]) rfl rfl rfl sz53 rfl rfl rfl rfl ?_
  refine o_nil ?_
  refine q_then ?_
  refine c_seq ?_
  refine c_seq ?_
  refine c_region ?_
  refine o_pure (p_load_agg (i := 0) (vs := [.int .i64 most, .int .i64 every, .int .i64 most, .int .i64 at_]) rfl rfl sh53 rfl rfl) rfl rfl rfl ?_
  refine o_call0 (v := .int .i64 (Rate.check0 (⟨most, every, most, at_⟩ : DBucket))) rfl (check0_ok (⟨most, every, most, at_⟩ : DBucket)) hf41 (fun _ _ => trivial) rfl ?_
  refine o_pure (p_assign (v := .int .i64 (Rate.check0 (⟨most, every, most, at_⟩ : DBucket))) rfl) rfl rfl rfl ?_
  refine o_nil ?_
  refine q_then ?_
  refine c_seq ?_
  refine c_region ?_
  refine o_pure (p_move (v := .int .i64 (Rate.check0 (⟨most, every, most, at_⟩ : DBucket))) rfl) rfl rfl rfl ?_
  refine o_pure (p_ne (p := (Rate.check0 (⟨most, every, most, at_⟩ : DBucket))) (q := 0) rfl rfl) rfl rfl rfl ?_
  refine o_nil ?_
  refine q_then ?_
  refine c_cond (b := ((Rate.check0 (⟨most, every, most, at_⟩ : DBucket)) != 0)) rfl (fun hc3 => ?_) (fun hc3 => ?_)
  · simp only [bne_iff_ne, ne_eq] at hc3
    refine c_seq ?_
    refine c_region ?_
    refine o_pure (p_build (cells := [.int .i64 0, .int .i64 0, .int .i64 0, .int .i64 0]) fp53 ze53 rfl rfl) rfl rfl rfl ?_
    refine o_pure (p_move (v := .int .i64 (Rate.check0 (⟨most, every, most, at_⟩ : DBucket))) rfl) rfl rfl rfl ?_
    refine o_storeN (i := 1) (vs := [.int .i64 0, .int .i64 0, .int .i64 0, .int .i64 0]) (cs' := [.int .i64 0, .int .i64 0, .int .i64 0, .int .i64 0]) rfl rfl rfl sz53 rfl rfl rfl rfl ?_
    refine o_pure (p_assign (v := .int .i64 (Rate.check0 (⟨most, every, most, at_⟩ : DBucket))) rfl) rfl rfl rfl ?_
    refine o_nil ?_
    refine q_then ?_
    refine c_ret ?_
    refine q_then_ret ?_
    refine q_end0 (v := .tuple #[.agg #[.int .i64 0, .int .i64 0, .int .i64 0, .int .i64 0], .int .i64 (Rate.check0 (⟨most, every, most, at_⟩ : DBucket))]) (rt2 rfl (r_cell (i := 1) rfl rfl sh53 rfl) (r_tmp rfl)) (i := 2) rfl ?_
    simp_all [Rate.new, Rate.full, Rate.zero]
  · simp only [bne_eq_false_iff_eq] at hc3
    refine c_skip ?_
    refine q_then ?_
    refine c_seq ?_
    refine c_region ?_
    refine o_pure (p_load_agg (i := 0) (vs := [.int .i64 most, .int .i64 every, .int .i64 most, .int .i64 at_]) rfl rfl sh53 rfl rfl) rfl rfl rfl ?_
    refine o_storeN (i := 1) (vs := [.int .i64 most, .int .i64 every, .int .i64 most, .int .i64 at_]) (cs' := [.int .i64 most, .int .i64 every, .int .i64 most, .int .i64 at_]) rfl rfl rfl sz53 rfl rfl rfl rfl ?_
    refine o_pure (p_assign (v := .int .i64 0) rfl) rfl rfl rfl ?_
    refine o_nil ?_
    refine q_then ?_
    refine c_ret ?_
    refine q_end0 (v := .tuple #[.agg #[.int .i64 most, .int .i64 every, .int .i64 most, .int .i64 at_], .int .i64 0]) (rt2 rfl (r_cell (i := 1) rfl rfl sh53 rfl) (r_tmp rfl)) (i := 2) rfl ?_
    simp_all [Rate.new, Rate.full, Rate.zero]

set_option maxHeartbeats 8000000 in
set_option maxRecDepth 100000 in
theorem gone_ok (b : DBucket) (at_ : Int) (hy1 : b.every ≠ 0) : Fn0 Try.prog 52 [.agg #[.int .i64 b.most, .int .i64 b.every, .int .i64 b.has, .int .i64 b.at_], .int .i64 at_] (fun _ => True) (.agg #[.int .i64 ((Rate.gone b at_).most), .int .i64 ((Rate.gone b at_).every), .int .i64 ((Rate.gone b at_).has), .int .i64 ((Rate.gone b at_).at_)]) := by
  refine fn0 (nt := 40) (F0 := [(0, .agg #[.int .i64 b.most, .int .i64 b.every, .int .i64 b.has, .int .i64 b.at_]), (1, .int .i64 at_)]) Try.func52 rfl Try.ntmps52 rfl rfl (fun w0 hpre => ?_)
  refine c_seq ?_
  refine c_region ?_
  refine o_box (v := .agg #[.int .i64 b.most, .int .i64 b.every, .int .i64 b.has, .int .i64 b.at_]) rfl rfl (fun B1 => ?_)
  refine o_alloc ze53 rfl (fun B2 => ?_)
  refine o_nil ?_
  refine q_then ?_
  refine c_seq ?_
  refine c_region ?_
  refine o_pure (p_move (v := .int .i64 at_) rfl) rfl rfl rfl ?_
  refine o_pure (p_fieldAddr (B := B1) (j := 0) (j' := 3) rfl fo53_3 rfl) rfl rfl rfl ?_
  refine o_pure (p_load (i := 1) (v := .int .i64 b.at_) rfl rfl sh3 rfl) rfl rfl rfl ?_
  refine o_pure (p_sub (p := at_) (q := b.at_) rfl rfl) rfl rfl rfl ?_
  refine o_pure (p_fieldAddr (B := B1) (j := 0) (j' := 1) rfl fo53_1 rfl) rfl rfl rfl ?_
  refine o_pure (p_load (i := 1) (v := .int .i64 b.every) rfl rfl sh3 rfl) rfl rfl rfl ?_
  refine o_pure (p_quo (p := (IntKind.i64.wrap (at_ - b.at_))) (q := b.every) rfl rfl (by omega)) rfl rfl rfl ?_
  refine o_pure (p_assign (v := .int .i64 (IntKind.i64.wrap ((IntKind.i64.wrap (at_ - b.at_)).tdiv b.every))) rfl) rfl rfl rfl ?_
  refine o_nil ?_
  refine q_then ?_
  refine c_seq ?_
  refine c_seq ?_
  refine c_region ?_
  refine o_pure (p_fieldAddr (B := B1) (j := 0) (j' := 2) rfl fo53_2 rfl) rfl rfl rfl ?_
  refine o_pure (p_load (i := 1) (v := .int .i64 b.has) rfl rfl sh3 rfl) rfl rfl rfl ?_
  refine o_pure (p_move (v := .int .i64 (IntKind.i64.wrap ((IntKind.i64.wrap (at_ - b.at_)).tdiv b.every))) rfl) rfl rfl rfl ?_
  refine o_pure (p_add (p := b.has) (q := (IntKind.i64.wrap ((IntKind.i64.wrap (at_ - b.at_)).tdiv b.every))) rfl rfl) rfl rfl rfl ?_
  refine o_pure (p_fieldAddr (B := B1) (j := 0) (j' := 0) rfl fo53_0 rfl) rfl rfl rfl ?_
  refine o_pure (p_load (i := 1) (v := .int .i64 b.most) rfl rfl sh3 rfl) rfl rfl rfl ?_
  refine o_pure (p_ge (p := (IntKind.i64.wrap (b.has + (IntKind.i64.wrap ((IntKind.i64.wrap (at_ - b.at_)).tdiv b.every))))) (q := b.most) rfl rfl) rfl rfl rfl ?_
  refine o_nil ?_
  refine q_then ?_
  refine c_cond (b := decide (b.most ≤ (IntKind.i64.wrap (b.has + (IntKind.i64.wrap ((IntKind.i64.wrap (at_ - b.at_)).tdiv b.every)))))) rfl (fun hc3 => ?_) (fun hc3 => ?_)
  · simp only [decide_eq_true_eq] at hc3
    refine c_seq ?_
    refine c_region ?_
    refine o_pure (p_fieldAddr (B := B1) (j := 0) (j' := 0) rfl fo53_0 rfl) rfl rfl rfl ?_
    refine o_pure (p_load (i := 1) (v := .int .i64 b.most) rfl rfl sh3 rfl) rfl rfl rfl ?_
    refine o_pure (p_move (v := .int .i64 at_) rfl) rfl rfl rfl ?_
    refine o_pure (p_fieldAddr (B := B1) (j := 0) (j' := 2) rfl fo53_2 rfl) rfl rfl rfl ?_
    refine o_store (i := 1) (v := .int .i64 b.most) (cs' := [.int .i64 b.most, .int .i64 b.every, .int .i64 b.most, .int .i64 b.at_]) rfl rfl rfl sz3 rfl rfl rfl ?_
    refine o_pure (p_fieldAddr (B := B1) (j := 0) (j' := 3) rfl fo53_3 rfl) rfl rfl rfl ?_
    refine o_store (i := 1) (v := .int .i64 at_) (cs' := [.int .i64 b.most, .int .i64 b.every, .int .i64 b.most, .int .i64 at_]) rfl rfl rfl sz3 rfl rfl rfl ?_
    refine o_nil ?_
    refine q_then ?_
    refine c_seq ?_
    refine c_region ?_
    refine o_pure (p_load_agg (i := 1) (vs := [.int .i64 b.most, .int .i64 b.every, .int .i64 b.most, .int .i64 at_]) rfl rfl sh53 rfl rfl) rfl rfl rfl ?_
    refine o_storeN (i := 0) (vs := [.int .i64 b.most, .int .i64 b.every, .int .i64 b.most, .int .i64 at_]) (cs' := [.int .i64 b.most, .int .i64 b.every, .int .i64 b.most, .int .i64 at_]) rfl rfl rfl sz53 rfl rfl rfl rfl ?_
    refine o_nil ?_
    refine q_then ?_
    refine c_ret ?_
    refine q_then_ret ?_
    refine q_end0 (v := .agg #[.int .i64 b.most, .int .i64 b.every, .int .i64 b.most, .int .i64 at_]) (rt1 rfl (r_cell (i := 0) rfl rfl sh53 rfl)) (i := 2) rfl ?_
    simp only [Rate.gone, Rate.come]; grind
  · simp only [decide_eq_false_iff_not, Int.not_le] at hc3
    refine c_skip ?_
    refine q_then ?_
    refine c_seq ?_
    refine c_region ?_
    refine o_pure (p_fieldAddr (B := B1) (j := 0) (j' := 2) rfl fo53_2 rfl) rfl rfl rfl ?_
    refine o_pure (p_load (i := 1) (v := .int .i64 b.has) rfl rfl sh3 rfl) rfl rfl rfl ?_
    refine o_pure (p_move (v := .int .i64 (IntKind.i64.wrap ((IntKind.i64.wrap (at_ - b.at_)).tdiv b.every))) rfl) rfl rfl rfl ?_
    refine o_pure (p_add (p := b.has) (q := (IntKind.i64.wrap ((IntKind.i64.wrap (at_ - b.at_)).tdiv b.every))) rfl rfl) rfl rfl rfl ?_
    refine o_pure (p_fieldAddr (B := B1) (j := 0) (j' := 3) rfl fo53_3 rfl) rfl rfl rfl ?_
    refine o_pure (p_load (i := 1) (v := .int .i64 b.at_) rfl rfl sh3 rfl) rfl rfl rfl ?_
    refine o_pure (p_move (v := .int .i64 (IntKind.i64.wrap ((IntKind.i64.wrap (at_ - b.at_)).tdiv b.every))) rfl) rfl rfl rfl ?_
    refine o_pure (p_fieldAddr (B := B1) (j := 0) (j' := 1) rfl fo53_1 rfl) rfl rfl rfl ?_
    refine o_pure (p_load (i := 1) (v := .int .i64 b.every) rfl rfl sh3 rfl) rfl rfl rfl ?_
    refine o_pure (p_mul (p := (IntKind.i64.wrap ((IntKind.i64.wrap (at_ - b.at_)).tdiv b.every))) (q := b.every) rfl rfl) rfl rfl rfl ?_
    refine o_pure (p_add (p := b.at_) (q := (IntKind.i64.wrap ((IntKind.i64.wrap ((IntKind.i64.wrap (at_ - b.at_)).tdiv b.every)) * b.every))) rfl rfl) rfl rfl rfl ?_
    refine o_pure (p_fieldAddr (B := B1) (j := 0) (j' := 2) rfl fo53_2 rfl) rfl rfl rfl ?_
    refine o_store (i := 1) (v := .int .i64 (IntKind.i64.wrap (b.has + (IntKind.i64.wrap ((IntKind.i64.wrap (at_ - b.at_)).tdiv b.every))))) (cs' := [.int .i64 b.most, .int .i64 b.every, .int .i64 (IntKind.i64.wrap (b.has + (IntKind.i64.wrap ((IntKind.i64.wrap (at_ - b.at_)).tdiv b.every)))), .int .i64 b.at_]) rfl rfl rfl sz3 rfl rfl rfl ?_
    refine o_pure (p_fieldAddr (B := B1) (j := 0) (j' := 3) rfl fo53_3 rfl) rfl rfl rfl ?_
    refine o_store (i := 1) (v := .int .i64 (IntKind.i64.wrap (b.at_ + (IntKind.i64.wrap ((IntKind.i64.wrap ((IntKind.i64.wrap (at_ - b.at_)).tdiv b.every)) * b.every))))) (cs' := [.int .i64 b.most, .int .i64 b.every, .int .i64 (IntKind.i64.wrap (b.has + (IntKind.i64.wrap ((IntKind.i64.wrap (at_ - b.at_)).tdiv b.every)))), .int .i64 (IntKind.i64.wrap (b.at_ + (IntKind.i64.wrap ((IntKind.i64.wrap ((IntKind.i64.wrap (at_ - b.at_)).tdiv b.every)) * b.every))))]) rfl rfl rfl sz3 rfl rfl rfl ?_
    refine o_nil ?_
    refine q_then ?_
    refine c_seq ?_
    refine c_region ?_
    refine o_pure (p_load_agg (i := 1) (vs := [.int .i64 b.most, .int .i64 b.every, .int .i64 (IntKind.i64.wrap (b.has + (IntKind.i64.wrap ((IntKind.i64.wrap (at_ - b.at_)).tdiv b.every)))), .int .i64 (IntKind.i64.wrap (b.at_ + (IntKind.i64.wrap ((IntKind.i64.wrap ((IntKind.i64.wrap (at_ - b.at_)).tdiv b.every)) * b.every))))]) rfl rfl sh53 rfl rfl) rfl rfl rfl ?_
    refine o_storeN (i := 0) (vs := [.int .i64 b.most, .int .i64 b.every, .int .i64 (IntKind.i64.wrap (b.has + (IntKind.i64.wrap ((IntKind.i64.wrap (at_ - b.at_)).tdiv b.every)))), .int .i64 (IntKind.i64.wrap (b.at_ + (IntKind.i64.wrap ((IntKind.i64.wrap ((IntKind.i64.wrap (at_ - b.at_)).tdiv b.every)) * b.every))))]) (cs' := [.int .i64 b.most, .int .i64 b.every, .int .i64 (IntKind.i64.wrap (b.has + (IntKind.i64.wrap ((IntKind.i64.wrap (at_ - b.at_)).tdiv b.every)))), .int .i64 (IntKind.i64.wrap (b.at_ + (IntKind.i64.wrap ((IntKind.i64.wrap ((IntKind.i64.wrap (at_ - b.at_)).tdiv b.every)) * b.every))))]) rfl rfl rfl sz53 rfl rfl rfl rfl ?_
    refine o_nil ?_
    refine q_then ?_
    refine c_ret ?_
    refine q_end0 (v := .agg #[.int .i64 b.most, .int .i64 b.every, .int .i64 (IntKind.i64.wrap (b.has + (IntKind.i64.wrap ((IntKind.i64.wrap (at_ - b.at_)).tdiv b.every)))), .int .i64 (IntKind.i64.wrap (b.at_ + (IntKind.i64.wrap ((IntKind.i64.wrap ((IntKind.i64.wrap (at_ - b.at_)).tdiv b.every)) * b.every))))]) (rt1 rfl (r_cell (i := 0) rfl rfl sh53 rfl)) (i := 2) rfl ?_
    simp only [Rate.gone, Rate.come]; grind
end Go.Proofs.Ythbfdhphnofacaa
