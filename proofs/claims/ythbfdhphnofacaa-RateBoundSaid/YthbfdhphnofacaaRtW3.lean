/- The walks, printed by a program from the translation and a specification. -/
import Derived.Test.YthbfdhphnofacaaRtF
import Derived.Test.YthbfdhphnofacaaRtPure
import Derived.Test.YthbfdhphnofacaaRtW1
namespace Go.Proofs.Ythbfdhphnofacaa
open Go.Sx Go.RowKit
set_option maxHeartbeats 8000000 in
set_option maxRecDepth 100000 in
theorem whenF_ok (b : DBucket) (at_ : Int) (many : Int) : Fn0 Try.prog 36 [.agg #[.int .i64 b.most, .int .i64 b.every, .int .i64 b.has, .int .i64 b.at_], .int .i64 at_, .int .i64 many] (fun _ => True) (.tuple #[.int .i64 (Rate.when_ b at_ many), .int .i64 (Rate.whenErr b at_ many)]) := by
  refine fn0 (nt := 47) (F0 := [(0, .agg #[.int .i64 b.most, .int .i64 b.every, .int .i64 b.has, .int .i64 b.at_]), (1, .int .i64 at_), (2, .int .i64 many)]) Try.func36 rfl Try.ntmps36 rfl rfl (fun w0 hpre => ?_)
  refine c_seq ?_
  refine c_region ?_
  refine o_box (v := .agg #[.int .i64 b.most, .int .i64 b.every, .int .i64 b.has, .int .i64 b.at_]) rfl rfl (fun B1 => ?_)
  refine o_pure (p_assign (v := .int .i64 0) rfl) rfl rfl rfl ?_
  refine o_pure (p_assign (v := .int .i64 0) rfl) rfl rfl rfl ?_
  refine o_nil ?_
  refine q_then ?_
  refine c_seq ?_
  refine c_region ?_
  refine o_pure (p_load_agg (i := 0) (vs := [.int .i64 b.most, .int .i64 b.every, .int .i64 b.has, .int .i64 b.at_]) rfl rfl sh53 rfl rfl) rfl rfl rfl ?_
  refine o_pure (p_move (v := .int .i64 at_) rfl) rfl rfl rfl ?_
  refine o_call0 (v := .int .i64 (Rate.check b at_)) rfl (check_ok b at_) hf51 (fun _ _ => trivial) rfl ?_
  refine o_pure (p_assign (v := .int .i64 (Rate.check b at_)) rfl) rfl rfl rfl ?_
  refine o_nil ?_
  refine q_then ?_
  refine c_seq ?_
  refine c_seq ?_
  refine c_region ?_
  refine o_pure (p_move (v := .int .i64 (Rate.check b at_)) rfl) rfl rfl rfl ?_
  refine o_pure (p_eq (p := (Rate.check b at_)) (q := 0) rfl rfl) rfl rfl rfl ?_
  refine o_pure (p_move (v := .bool ((Rate.check b at_) == 0)) rfl) rfl rfl rfl ?_
  refine o_and (p := 20) 4 (!(Rate.some_ many)) ?_ ?_ ?_
  · intro hb2 hk
    simp only [beq_iff_eq] at hb2
    refine o_unguard 16 rfl rfl ?_
    refine o_pure (p_move (v := .int .i64 many) rfl) rfl rfl rfl ?_
    refine o_unguard 16 rfl rfl ?_
    refine o_call0 (v := .bool (Rate.some_ many)) rfl (some__ok many) hf53 (fun _ _ => trivial) rfl ?_
    refine o_unguard 16 rfl rfl ?_
    refine o_pure (p_not (b := (Rate.some_ many)) rfl) rfl rfl rfl ?_
    refine o_pure (p_pick_true (u := .bool (!(Rate.some_ many))) rfl rfl) rfl rfl rfl ?_
    exact o_sub (Sub.cons rfl (Sub.skip rfl (Sub.skip rfl (Sub.skip rfl (Sub.skip rfl (Sub.skip rfl (Sub.refl _))))))) hk
  · intro hb2 hk
    refine o_guard_no rfl 16 rfl rfl rfl rfl rfl ?_
    refine o_guard_no rfl 16 rfl rfl rfl rfl rfl ?_
    refine o_guard_no rfl 16 rfl rfl rfl rfl rfl ?_
    refine o_pure (p_pick_false (v := .bool false) rfl rfl) rfl rfl rfl ?_
    exact o_sub (Sub.cons rfl (Sub.skip rfl (Sub.skip rfl (Sub.skip rfl (Sub.skip rfl (Sub.skip rfl (Sub.refl _))))))) hk
  refine o_nil ?_
  refine q_then ?_
  refine c_cond (b := (((Rate.check b at_) == 0) && (!(Rate.some_ many)))) rfl (fun hc3 => ?_) (fun hc3 => ?_)
  · simp only [Bool.and_eq_true, beq_iff_eq, Bool.not_eq_true'] at hc3
    refine c_region ?_
    refine o_pure (p_assign (v := .int .i64 3) rfl) rfl rfl rfl ?_
    refine o_nil ?_
    refine q_then ?_
    refine c_seq ?_
    refine c_seq ?_
    refine c_region ?_
    refine o_pure (p_move (v := .int .i64 3) rfl) rfl rfl rfl ?_
    refine o_pure (p_ne (p := 3) (q := 0) rfl rfl) rfl rfl rfl ?_
    refine o_nil ?_
    refine q_then ?_
    refine c_true rfl ?_
    refine c_seq ?_
    refine c_region ?_
    refine o_pure (p_move (v := .int .i64 3) rfl) rfl rfl rfl ?_
    refine o_pure (p_assign (v := .int .i64 0) rfl) rfl rfl rfl ?_
    refine o_pure (p_assign (v := .int .i64 3) rfl) rfl rfl rfl ?_
    refine o_nil ?_
    refine q_then ?_
    refine c_ret ?_
    refine q_then_ret ?_
    refine q_end0 (v := .tuple #[.int .i64 0, .int .i64 3]) (rt2 rfl (r_tmp rfl) (r_tmp rfl)) (i := 1) rfl ?_
    grind [Rate.when_, Rate.whenErr, Rate.whenAt, Rate.err, Rate.zero, Rate.some_, Rate.tick]
  · simp only [Bool.and_eq_false_iff, beq_eq_false_iff_ne, ne_eq, Bool.not_eq_false'] at hc3
    refine c_skip ?_
    refine q_then ?_
    refine c_seq ?_
    refine c_seq ?_
    refine c_region ?_
    refine o_pure (p_move (v := .int .i64 (Rate.check b at_)) rfl) rfl rfl rfl ?_
    refine o_pure (p_ne (p := (Rate.check b at_)) (q := 0) rfl rfl) rfl rfl rfl ?_
    refine o_nil ?_
    refine q_then ?_
    refine c_cond (b := ((Rate.check b at_) != 0)) rfl (fun hc4 => ?_) (fun hc4 => ?_)
    · simp only [bne_iff_ne, ne_eq] at hc4
      refine c_seq ?_
      refine c_region ?_
      refine o_pure (p_move (v := .int .i64 (Rate.check b at_)) rfl) rfl rfl rfl ?_
      refine o_pure (p_assign (v := .int .i64 0) rfl) rfl rfl rfl ?_
      refine o_pure (p_assign (v := .int .i64 (Rate.check b at_)) rfl) rfl rfl rfl ?_
      refine o_nil ?_
      refine q_then ?_
      refine c_ret ?_
      refine q_then_ret ?_
      refine q_end0 (v := .tuple #[.int .i64 0, .int .i64 (Rate.check b at_)]) (rt2 rfl (r_tmp rfl) (r_tmp rfl)) (i := 1) rfl ?_
      grind [Rate.when_, Rate.whenErr, Rate.whenAt, Rate.err, Rate.zero, Rate.some_, Rate.tick]
    · simp only [bne_eq_false_iff_eq] at hc4
      refine c_skip ?_
      refine q_then ?_
      refine c_seq ?_
      refine c_region ?_
      refine o_pure (p_load_agg (i := 0) (vs := [.int .i64 b.most, .int .i64 b.every, .int .i64 b.has, .int .i64 b.at_]) rfl rfl sh53 rfl rfl) rfl rfl rfl ?_
      refine o_pure (p_move (v := .int .i64 at_) rfl) rfl rfl rfl ?_
      refine o_call0 (v := .agg #[.int .i64 ((Rate.gone b at_).most), .int .i64 ((Rate.gone b at_).every), .int .i64 ((Rate.gone b at_).has), .int .i64 ((Rate.gone b at_).at_)]) rfl (gone_ok b at_ (by first | assumption | exact Rate.check_every (by assumption))) hf52 (fun _ _ => trivial) rfl ?_
      refine o_alloc ze53 rfl (fun B5 => ?_)
      refine o_storeN (i := 0) (vs := [.int .i64 ((Rate.gone b at_).most), .int .i64 ((Rate.gone b at_).every), .int .i64 ((Rate.gone b at_).has), .int .i64 ((Rate.gone b at_).at_)]) (cs' := [.int .i64 ((Rate.gone b at_).most), .int .i64 ((Rate.gone b at_).every), .int .i64 ((Rate.gone b at_).has), .int .i64 ((Rate.gone b at_).at_)]) rfl rfl rfl sz53 rfl rfl rfl rfl ?_
      refine o_nil ?_
      refine q_then ?_
      refine c_seq ?_
      refine c_seq ?_
      refine c_region ?_
      refine o_pure (p_move (v := .int .i64 many) rfl) rfl rfl rfl ?_
      refine o_pure (p_fieldAddr (B := B5) (j := 0) (j' := 0) rfl fo53_0 rfl) rfl rfl rfl ?_
      refine o_pure (p_load (i := 0) (v := .int .i64 ((Rate.gone b at_).most)) rfl rfl sh3 rfl) rfl rfl rfl ?_
      refine o_pure (p_gt (p := many) (q := (Rate.gone b at_).most) rfl rfl) rfl rfl rfl ?_
      refine o_nil ?_
      refine q_then ?_
      refine c_cond (b := decide ((Rate.gone b at_).most < many)) rfl (fun hc6 => ?_) (fun hc6 => ?_)
      · simp only [decide_eq_true_eq] at hc6
        refine c_seq ?_
        refine c_region ?_
        refine o_pure (p_assign (v := .int .i64 0) rfl) rfl rfl rfl ?_
        refine o_pure (p_assign (v := .int .i64 5) rfl) rfl rfl rfl ?_
        refine o_nil ?_
        refine q_then ?_
        refine c_ret ?_
        refine q_then_ret ?_
        refine q_end0 (v := .tuple #[.int .i64 0, .int .i64 5]) (rt2 rfl (r_tmp rfl) (r_tmp rfl)) (i := 2) rfl ?_
        grind [Rate.when_, Rate.whenErr, Rate.whenAt, Rate.err, Rate.zero, Rate.some_, Rate.tick]
      · simp only [decide_eq_false_iff_not, Int.not_lt] at hc6
        refine c_skip ?_
        refine q_then ?_
        refine c_seq ?_
        refine c_region ?_
        refine o_pure (p_move (v := .int .i64 at_) rfl) rfl rfl rfl ?_
        refine o_pure (p_fieldAddr (B := B5) (j := 0) (j' := 3) rfl fo53_3 rfl) rfl rfl rfl ?_
        refine o_pure (p_load (i := 0) (v := .int .i64 ((Rate.gone b at_).at_)) rfl rfl sh3 rfl) rfl rfl rfl ?_
        refine o_pure (p_move (v := .int .i64 many) rfl) rfl rfl rfl ?_
        refine o_pure (p_fieldAddr (B := B5) (j := 0) (j' := 2) rfl fo53_2 rfl) rfl rfl rfl ?_
        refine o_pure (p_load (i := 0) (v := .int .i64 ((Rate.gone b at_).has)) rfl rfl sh3 rfl) rfl rfl rfl ?_
        refine o_pure (p_sub (p := many) (q := (Rate.gone b at_).has) rfl rfl) rfl rfl rfl ?_
        refine o_pure (p_fieldAddr (B := B5) (j := 0) (j' := 1) rfl fo53_1 rfl) rfl rfl rfl ?_
        refine o_pure (p_load (i := 0) (v := .int .i64 ((Rate.gone b at_).every)) rfl rfl sh3 rfl) rfl rfl rfl ?_
        refine o_pure (p_mul (p := (IntKind.i64.wrap (many - (Rate.gone b at_).has))) (q := (Rate.gone b at_).every) rfl rfl) rfl rfl rfl ?_
        refine o_pure (p_add (p := (Rate.gone b at_).at_) (q := (IntKind.i64.wrap ((IntKind.i64.wrap (many - (Rate.gone b at_).has)) * (Rate.gone b at_).every))) rfl rfl) rfl rfl rfl ?_
        refine o_pure (p_max (p := at_) (q := (IntKind.i64.wrap ((Rate.gone b at_).at_ + (IntKind.i64.wrap ((IntKind.i64.wrap (many - (Rate.gone b at_).has)) * (Rate.gone b at_).every))))) rfl rfl) rfl rfl rfl ?_
        refine o_pure (p_assign (v := .int .i64 (max at_ (IntKind.i64.wrap ((Rate.gone b at_).at_ + (IntKind.i64.wrap ((IntKind.i64.wrap (many - (Rate.gone b at_).has)) * (Rate.gone b at_).every)))))) rfl) rfl rfl rfl ?_
        refine o_nil ?_
        refine q_then ?_
        refine c_seq ?_
        refine c_seq ?_
        refine c_region ?_
        refine o_pure (p_move (v := .int .i64 (max at_ (IntKind.i64.wrap ((Rate.gone b at_).at_ + (IntKind.i64.wrap ((IntKind.i64.wrap (many - (Rate.gone b at_).has)) * (Rate.gone b at_).every)))))) rfl) rfl rfl rfl ?_
        refine o_call0 (v := .bool (Rate.tick (max at_ (IntKind.i64.wrap ((Rate.gone b at_).at_ + (IntKind.i64.wrap ((IntKind.i64.wrap (many - (Rate.gone b at_).has)) * (Rate.gone b at_).every))))))) rfl (tick_ok (max at_ (IntKind.i64.wrap ((Rate.gone b at_).at_ + (IntKind.i64.wrap ((IntKind.i64.wrap (many - (Rate.gone b at_).has)) * (Rate.gone b at_).every)))))) hf54 (fun _ _ => trivial) rfl ?_
        refine o_pure (p_not (b := (Rate.tick (max at_ (IntKind.i64.wrap ((Rate.gone b at_).at_ + (IntKind.i64.wrap ((IntKind.i64.wrap (many - (Rate.gone b at_).has)) * (Rate.gone b at_).every))))))) rfl) rfl rfl rfl ?_
        refine o_nil ?_
        refine q_then ?_
        refine c_cond (b := (!(Rate.tick (max at_ (IntKind.i64.wrap ((Rate.gone b at_).at_ + (IntKind.i64.wrap ((IntKind.i64.wrap (many - (Rate.gone b at_).has)) * (Rate.gone b at_).every)))))))) rfl (fun hc7 => ?_) (fun hc7 => ?_)
        · simp only [Bool.not_eq_true'] at hc7
          refine c_seq ?_
          refine c_region ?_
          refine o_pure (p_assign (v := .int .i64 0) rfl) rfl rfl rfl ?_
          refine o_pure (p_assign (v := .int .i64 5) rfl) rfl rfl rfl ?_
          refine o_nil ?_
          refine q_then ?_
          refine c_ret ?_
          refine q_then_ret ?_
          refine q_end0 (v := .tuple #[.int .i64 0, .int .i64 5]) (rt2 rfl (r_tmp rfl) (r_tmp rfl)) (i := 2) rfl ?_
          grind [Rate.when_, Rate.whenErr, Rate.whenAt, Rate.err, Rate.zero, Rate.some_, Rate.tick]
        · simp only [Bool.not_eq_false'] at hc7
          refine c_skip ?_
          refine q_then ?_
          refine c_seq ?_
          refine c_region ?_
          refine o_pure (p_move (v := .int .i64 (max at_ (IntKind.i64.wrap ((Rate.gone b at_).at_ + (IntKind.i64.wrap ((IntKind.i64.wrap (many - (Rate.gone b at_).has)) * (Rate.gone b at_).every)))))) rfl) rfl rfl rfl ?_
          refine o_pure (p_assign (v := .int .i64 (max at_ (IntKind.i64.wrap ((Rate.gone b at_).at_ + (IntKind.i64.wrap ((IntKind.i64.wrap (many - (Rate.gone b at_).has)) * (Rate.gone b at_).every)))))) rfl) rfl rfl rfl ?_
          refine o_pure (p_assign (v := .int .i64 0) rfl) rfl rfl rfl ?_
          refine o_nil ?_
          refine q_then ?_
          refine c_ret ?_
          refine q_end0 (v := .tuple #[.int .i64 (max at_ (IntKind.i64.wrap ((Rate.gone b at_).at_ + (IntKind.i64.wrap ((IntKind.i64.wrap (many - (Rate.gone b at_).has)) * (Rate.gone b at_).every))))), .int .i64 0]) (rt2 rfl (r_tmp rfl) (r_tmp rfl)) (i := 2) rfl ?_
          grind [Rate.when_, Rate.whenErr, Rate.whenAt, Rate.err, Rate.zero, Rate.some_, Rate.tick]
end Go.Proofs.Ythbfdhphnofacaa
