/- The walks, printed by a program from the translation and a specification. -/
import Derived.Test.YthbfdhphnofacaaRtF
import Derived.Test.YthbfdhphnofacaaRtPure
import Derived.Test.YthbfdhphnofacaaRtW5
import Derived.Test.YthbfdhphnofacaaRtLaw2
namespace Go.Proofs.Ythbfdhphnofacaa
open Go.Sx Go.RowKit
set_option maxHeartbeats 8000000 in
set_option maxRecDepth 100000 in
theorem rateWhen_ok (b : DBucket) (at_ : Int) (many : Int) : Fn0 Try.prog 13 [.agg #[.int .i64 b.most, .int .i64 b.every, .int .i64 b.has, .int .i64 b.at_], .int .i64 at_, .int .i64 many] (fun _ => True) (.bool true) := by
  refine fn0 (nt := 65) (F0 := [(0, .agg #[.int .i64 b.most, .int .i64 b.every, .int .i64 b.has, .int .i64 b.at_]), (1, .int .i64 at_), (2, .int .i64 many)]) Try.func13 rfl Try.ntmps13 rfl rfl (fun w0 hpre => ?_)
  refine c_seq ?_
  refine c_region ?_
  refine o_box (v := .agg #[.int .i64 b.most, .int .i64 b.every, .int .i64 b.has, .int .i64 b.at_]) rfl rfl (fun B1 => ?_)
  refine o_pure (p_assign (v := .bool false) rfl) rfl rfl rfl ?_
  refine o_nil ?_
  refine q_then ?_
  refine c_seq ?_
  refine c_region ?_
  refine o_pure (p_load_agg (i := 0) (vs := [.int .i64 b.most, .int .i64 b.every, .int .i64 b.has, .int .i64 b.at_]) rfl rfl sh53 rfl rfl) rfl rfl rfl ?_
  refine o_pure (p_move (v := .int .i64 at_) rfl) rfl rfl rfl ?_
  refine o_pure (p_move (v := .int .i64 many) rfl) rfl rfl rfl ?_
  refine o_call0 (v := .tuple #[.int .i64 (Rate.when_ b at_ many), .int .i64 (Rate.whenErr b at_ many)]) rfl (whenF_ok b at_ many) hf36 (fun _ _ => trivial) rfl ?_
  refine o_pure (p_move (v := .tuple #[.int .i64 (Rate.when_ b at_ many), .int .i64 (Rate.whenErr b at_ many)]) rfl) rfl rfl rfl ?_
  refine o_pure (p_extract (vs := [.int .i64 (Rate.when_ b at_ many), .int .i64 (Rate.whenErr b at_ many)]) (v := .int .i64 (Rate.when_ b at_ many)) rfl rfl) rfl rfl rfl ?_
  refine o_pure (p_extract (vs := [.int .i64 (Rate.when_ b at_ many), .int .i64 (Rate.whenErr b at_ many)]) (v := .int .i64 (Rate.whenErr b at_ many)) rfl rfl) rfl rfl rfl ?_
  refine o_pure (p_assign (v := .int .i64 (Rate.when_ b at_ many)) rfl) rfl rfl rfl ?_
  refine o_pure (p_assign (v := .int .i64 (Rate.whenErr b at_ many)) rfl) rfl rfl rfl ?_
  refine o_nil ?_
  refine q_then ?_
  refine c_seq ?_
  refine c_seq ?_
  refine c_region ?_
  refine o_call0 (v := .bool true) rfl (rateBegun_ok ) hf40 (fun _ _ => trivial) rfl ?_
  refine o_pure (p_not (b := true) rfl) rfl rfl rfl ?_
  refine o_nil ?_
  refine q_then ?_
  refine c_false rfl ?_
  refine c_skip ?_
  refine q_then ?_
  refine c_seq ?_
  refine c_seq ?_
  refine c_region ?_
  refine o_pure (p_move (v := .int .i64 (Rate.whenErr b at_ many)) rfl) rfl rfl rfl ?_
  refine o_pure (p_ne (p := (Rate.whenErr b at_ many)) (q := 0) rfl rfl) rfl rfl rfl ?_
  refine o_nil ?_
  refine q_then ?_
  refine c_cond (b := ((Rate.whenErr b at_ many) != 0)) rfl (fun hc2 => ?_) (fun hc2 => ?_)
  · simp only [bne_iff_ne, ne_eq] at hc2
    refine c_seq ?_
    refine c_region ?_
    refine o_pure (p_move (v := .int .i64 (Rate.when_ b at_ many)) rfl) rfl rfl rfl ?_
    refine o_pure (p_eq (p := (Rate.when_ b at_ many)) (q := 0) rfl rfl) rfl rfl rfl ?_
    refine o_pure (p_assign (v := .bool ((Rate.when_ b at_ many) == 0)) rfl) rfl rfl rfl ?_
    refine o_nil ?_
    refine q_then ?_
    refine c_ret ?_
    refine q_then_ret ?_
    refine q_end0 (v := .bool ((Rate.when_ b at_ many) == 0)) (rt1 rfl (r_tmp rfl)) (i := 1) rfl ?_
    first
      | rfl
      | (rw [show Rate.when_ b at_ many = 0 from if_neg (by assumption)]; rfl)
      | (obtain ⟨w1, w2, w3, w4, w5, w6⟩ := Rate.when_law (b := b) (at_ := at_) (many := many) (by assumption)
         obtain ⟨w7, w8⟩ := w4 (by assumption)
         rw [Rate.wrap_ok (by omega), w7, w8]; rfl)
  · simp only [bne_eq_false_iff_eq] at hc2
    refine c_skip ?_
    refine q_then ?_
    refine c_seq ?_
    refine c_region ?_
    refine o_pure (p_load_agg (i := 0) (vs := [.int .i64 b.most, .int .i64 b.every, .int .i64 b.has, .int .i64 b.at_]) rfl rfl sh53 rfl rfl) rfl rfl rfl ?_
    refine o_pure (p_move (v := .int .i64 (Rate.when_ b at_ many)) rfl) rfl rfl rfl ?_
    refine o_pure (p_move (v := .int .i64 many) rfl) rfl rfl rfl ?_
    refine o_call0 (v := .tuple #[.agg #[.int .i64 ((Rate.take b (Rate.when_ b at_ many) many).most), .int .i64 ((Rate.take b (Rate.when_ b at_ many) many).every), .int .i64 ((Rate.take b (Rate.when_ b at_ many) many).has), .int .i64 ((Rate.take b (Rate.when_ b at_ many) many).at_)], .bool (Rate.can b (Rate.when_ b at_ many) many), .int .i64 (Rate.err b (Rate.when_ b at_ many) many)]) rfl (take_ok b (Rate.when_ b at_ many) many) hf35 (fun _ _ => trivial) rfl ?_
    refine o_pure (p_move (v := .tuple #[.agg #[.int .i64 ((Rate.take b (Rate.when_ b at_ many) many).most), .int .i64 ((Rate.take b (Rate.when_ b at_ many) many).every), .int .i64 ((Rate.take b (Rate.when_ b at_ many) many).has), .int .i64 ((Rate.take b (Rate.when_ b at_ many) many).at_)], .bool (Rate.can b (Rate.when_ b at_ many) many), .int .i64 (Rate.err b (Rate.when_ b at_ many) many)]) rfl) rfl rfl rfl ?_
    refine o_pure (p_extract (vs := [.agg #[.int .i64 ((Rate.take b (Rate.when_ b at_ many) many).most), .int .i64 ((Rate.take b (Rate.when_ b at_ many) many).every), .int .i64 ((Rate.take b (Rate.when_ b at_ many) many).has), .int .i64 ((Rate.take b (Rate.when_ b at_ many) many).at_)], .bool (Rate.can b (Rate.when_ b at_ many) many), .int .i64 (Rate.err b (Rate.when_ b at_ many) many)]) (v := .agg #[.int .i64 ((Rate.take b (Rate.when_ b at_ many) many).most), .int .i64 ((Rate.take b (Rate.when_ b at_ many) many).every), .int .i64 ((Rate.take b (Rate.when_ b at_ many) many).has), .int .i64 ((Rate.take b (Rate.when_ b at_ many) many).at_)]) rfl rfl) rfl rfl rfl ?_
    refine o_pure (p_extract (vs := [.agg #[.int .i64 ((Rate.take b (Rate.when_ b at_ many) many).most), .int .i64 ((Rate.take b (Rate.when_ b at_ many) many).every), .int .i64 ((Rate.take b (Rate.when_ b at_ many) many).has), .int .i64 ((Rate.take b (Rate.when_ b at_ many) many).at_)], .bool (Rate.can b (Rate.when_ b at_ many) many), .int .i64 (Rate.err b (Rate.when_ b at_ many) many)]) (v := .bool (Rate.can b (Rate.when_ b at_ many) many)) rfl rfl) rfl rfl rfl ?_
    refine o_pure (p_extract (vs := [.agg #[.int .i64 ((Rate.take b (Rate.when_ b at_ many) many).most), .int .i64 ((Rate.take b (Rate.when_ b at_ many) many).every), .int .i64 ((Rate.take b (Rate.when_ b at_ many) many).has), .int .i64 ((Rate.take b (Rate.when_ b at_ many) many).at_)], .bool (Rate.can b (Rate.when_ b at_ many) many), .int .i64 (Rate.err b (Rate.when_ b at_ many) many)]) (v := .int .i64 (Rate.err b (Rate.when_ b at_ many) many)) rfl rfl) rfl rfl rfl ?_
    refine o_alloc ze53 rfl (fun B3 => ?_)
    refine o_storeN (i := 0) (vs := [.int .i64 ((Rate.take b (Rate.when_ b at_ many) many).most), .int .i64 ((Rate.take b (Rate.when_ b at_ many) many).every), .int .i64 ((Rate.take b (Rate.when_ b at_ many) many).has), .int .i64 ((Rate.take b (Rate.when_ b at_ many) many).at_)]) (cs' := [.int .i64 ((Rate.take b (Rate.when_ b at_ many) many).most), .int .i64 ((Rate.take b (Rate.when_ b at_ many) many).every), .int .i64 ((Rate.take b (Rate.when_ b at_ many) many).has), .int .i64 ((Rate.take b (Rate.when_ b at_ many) many).at_)]) rfl rfl rfl sz53 rfl rfl rfl rfl ?_
    refine o_pure (p_assign (v := .bool (Rate.can b (Rate.when_ b at_ many) many)) rfl) rfl rfl rfl ?_
    refine o_pure (p_assign (v := .int .i64 (Rate.err b (Rate.when_ b at_ many) many)) rfl) rfl rfl rfl ?_
    refine o_nil ?_
    refine q_then ?_
    refine c_seq ?_
    refine c_seq ?_
    refine c_region ?_
    refine o_pure (p_move (v := .int .i64 (Rate.err b (Rate.when_ b at_ many) many)) rfl) rfl rfl rfl ?_
    refine o_pure (p_ne (p := (Rate.err b (Rate.when_ b at_ many) many)) (q := 0) rfl rfl) rfl rfl rfl ?_
    refine o_pure (p_move (v := .bool ((Rate.err b (Rate.when_ b at_ many) many) != 0)) rfl) rfl rfl rfl ?_
    refine o_or (p := 41) 3 (!(Rate.can b (Rate.when_ b at_ many) many)) ?_ ?_ ?_
    · intro hb4 hk
      simp only [bne_eq_false_iff_eq] at hb4
      refine o_unguard 38 rfl rfl ?_
      refine o_pure (p_move (v := .bool (Rate.can b (Rate.when_ b at_ many) many)) rfl) rfl rfl rfl ?_
      refine o_unguard 38 rfl rfl ?_
      refine o_pure (p_not (b := (Rate.can b (Rate.when_ b at_ many) many)) rfl) rfl rfl rfl ?_
      refine o_pure (p_pick_false (v := .bool (!(Rate.can b (Rate.when_ b at_ many) many))) rfl rfl) rfl rfl rfl ?_
      exact o_sub (Sub.cons rfl (Sub.skip rfl (Sub.skip rfl (Sub.skip rfl (Sub.skip rfl (Sub.refl _)))))) hk
    · intro hb4 hk
      refine o_guard_no rfl 38 rfl rfl rfl rfl rfl ?_
      refine o_guard_no rfl 38 rfl rfl rfl rfl rfl ?_
      refine o_pure (p_pick_true (u := .bool true) rfl rfl) rfl rfl rfl ?_
      exact o_sub (Sub.cons rfl (Sub.skip rfl (Sub.skip rfl (Sub.skip rfl (Sub.skip rfl (Sub.refl _)))))) hk
    refine o_pure (p_move (v := .bool (((Rate.err b (Rate.when_ b at_ many) many) != 0) || (!(Rate.can b (Rate.when_ b at_ many) many)))) rfl) rfl rfl rfl ?_
    refine o_or (p := 46) 4 (decide ((Rate.when_ b at_ many) < at_)) ?_ ?_ ?_
    · intro hb5 hk
      simp only [Bool.or_eq_false_iff, bne_eq_false_iff_eq, Bool.not_eq_false'] at hb5
      refine o_unguard 42 rfl rfl ?_
      refine o_pure (p_move (v := .int .i64 (Rate.when_ b at_ many)) rfl) rfl rfl rfl ?_
      refine o_unguard 42 rfl rfl ?_
      refine o_pure (p_move (v := .int .i64 at_) rfl) rfl rfl rfl ?_
      refine o_unguard 42 rfl rfl ?_
      refine o_pure (p_lt (p := (Rate.when_ b at_ many)) (q := at_) rfl rfl) rfl rfl rfl ?_
      refine o_pure (p_pick_false (v := .bool (decide ((Rate.when_ b at_ many) < at_))) rfl rfl) rfl rfl rfl ?_
      exact o_sub (Sub.cons rfl (Sub.skip rfl (Sub.skip rfl (Sub.skip rfl (Sub.skip rfl (Sub.skip rfl (Sub.refl _))))))) hk
    · intro hb5 hk
      refine o_guard_no rfl 42 rfl rfl rfl rfl rfl ?_
      refine o_guard_no rfl 42 rfl rfl rfl rfl rfl ?_
      refine o_guard_no rfl 42 rfl rfl rfl rfl rfl ?_
      refine o_pure (p_pick_true (u := .bool true) rfl rfl) rfl rfl rfl ?_
      exact o_sub (Sub.cons rfl (Sub.skip rfl (Sub.skip rfl (Sub.skip rfl (Sub.skip rfl (Sub.skip rfl (Sub.refl _))))))) hk
    refine o_nil ?_
    refine q_then ?_
    refine c_cond (b := ((((Rate.err b (Rate.when_ b at_ many) many) != 0) || (!(Rate.can b (Rate.when_ b at_ many) many))) || decide ((Rate.when_ b at_ many) < at_))) rfl (fun hc6 => ?_) (fun hc6 => ?_)
    · simp only [Bool.or_eq_true, bne_iff_ne, ne_eq, Bool.not_eq_true', decide_eq_true_eq] at hc6
      exfalso; obtain ⟨w1, w2, w3, w4, w5, w6⟩ := Rate.when_law (b := b) (at_ := at_) (many := many) (by assumption)
      rcases hc6 with (c | c) | c
      · exact c w2
      · rw [w3] at c; cases c
      · omega
    · simp only [Bool.or_eq_false_iff, bne_eq_false_iff_eq, Bool.not_eq_false', decide_eq_false_iff_not, Int.not_lt] at hc6
      refine c_skip ?_
      refine q_then ?_
      refine c_seq ?_
      refine c_seq ?_
      refine c_region ?_
      refine o_pure (p_move (v := .int .i64 (Rate.when_ b at_ many)) rfl) rfl rfl rfl ?_
      refine o_pure (p_move (v := .int .i64 at_) rfl) rfl rfl rfl ?_
      refine o_pure (p_eq (p := (Rate.when_ b at_ many)) (q := at_) rfl rfl) rfl rfl rfl ?_
      refine o_nil ?_
      refine q_then ?_
      refine c_cond (b := ((Rate.when_ b at_ many) == at_)) rfl (fun hc7 => ?_) (fun hc7 => ?_)
      · simp only [beq_iff_eq] at hc7
        refine c_seq ?_
        refine c_region ?_
        refine o_pure (p_assign (v := .bool true) rfl) rfl rfl rfl ?_
        refine o_nil ?_
        refine q_then ?_
        refine c_ret ?_
        refine q_then_ret ?_
        refine q_end0 (v := .bool true) (rt1 rfl (r_tmp rfl)) (i := 2) rfl ?_
        first
          | rfl
          | (rw [show Rate.when_ b at_ many = 0 from if_neg (by assumption)]; rfl)
          | (obtain ⟨w1, w2, w3, w4, w5, w6⟩ := Rate.when_law (b := b) (at_ := at_) (many := many) (by assumption)
             obtain ⟨w7, w8⟩ := w4 (by assumption)
             rw [Rate.wrap_ok (by omega), w7, w8]; rfl)
      · simp only [beq_eq_false_iff_ne, ne_eq] at hc7
        refine c_skip ?_
        refine q_then ?_
        refine c_seq ?_
        refine c_region ?_
        refine o_pure (p_load_agg (i := 1) (vs := [.int .i64 b.most, .int .i64 b.every, .int .i64 b.has, .int .i64 b.at_]) rfl rfl sh53 rfl rfl) rfl rfl rfl ?_
        refine o_pure (p_move (v := .int .i64 (Rate.when_ b at_ many)) rfl) rfl rfl rfl ?_
        refine o_pure (p_sub (p := (Rate.when_ b at_ many)) (q := 1) rfl rfl) rfl rfl rfl ?_
        refine o_pure (p_move (v := .int .i64 many) rfl) rfl rfl rfl ?_
        refine o_call0 (v := .tuple #[.agg #[.int .i64 ((Rate.take b (IntKind.i64.wrap ((Rate.when_ b at_ many) - 1)) many).most), .int .i64 ((Rate.take b (IntKind.i64.wrap ((Rate.when_ b at_ many) - 1)) many).every), .int .i64 ((Rate.take b (IntKind.i64.wrap ((Rate.when_ b at_ many) - 1)) many).has), .int .i64 ((Rate.take b (IntKind.i64.wrap ((Rate.when_ b at_ many) - 1)) many).at_)], .bool (Rate.can b (IntKind.i64.wrap ((Rate.when_ b at_ many) - 1)) many), .int .i64 (Rate.err b (IntKind.i64.wrap ((Rate.when_ b at_ many) - 1)) many)]) rfl (take_ok b (IntKind.i64.wrap ((Rate.when_ b at_ many) - 1)) many) hf35 (fun _ _ => trivial) rfl ?_
        refine o_pure (p_move (v := .tuple #[.agg #[.int .i64 ((Rate.take b (IntKind.i64.wrap ((Rate.when_ b at_ many) - 1)) many).most), .int .i64 ((Rate.take b (IntKind.i64.wrap ((Rate.when_ b at_ many) - 1)) many).every), .int .i64 ((Rate.take b (IntKind.i64.wrap ((Rate.when_ b at_ many) - 1)) many).has), .int .i64 ((Rate.take b (IntKind.i64.wrap ((Rate.when_ b at_ many) - 1)) many).at_)], .bool (Rate.can b (IntKind.i64.wrap ((Rate.when_ b at_ many) - 1)) many), .int .i64 (Rate.err b (IntKind.i64.wrap ((Rate.when_ b at_ many) - 1)) many)]) rfl) rfl rfl rfl ?_
        refine o_pure (p_extract (vs := [.agg #[.int .i64 ((Rate.take b (IntKind.i64.wrap ((Rate.when_ b at_ many) - 1)) many).most), .int .i64 ((Rate.take b (IntKind.i64.wrap ((Rate.when_ b at_ many) - 1)) many).every), .int .i64 ((Rate.take b (IntKind.i64.wrap ((Rate.when_ b at_ many) - 1)) many).has), .int .i64 ((Rate.take b (IntKind.i64.wrap ((Rate.when_ b at_ many) - 1)) many).at_)], .bool (Rate.can b (IntKind.i64.wrap ((Rate.when_ b at_ many) - 1)) many), .int .i64 (Rate.err b (IntKind.i64.wrap ((Rate.when_ b at_ many) - 1)) many)]) (v := .agg #[.int .i64 ((Rate.take b (IntKind.i64.wrap ((Rate.when_ b at_ many) - 1)) many).most), .int .i64 ((Rate.take b (IntKind.i64.wrap ((Rate.when_ b at_ many) - 1)) many).every), .int .i64 ((Rate.take b (IntKind.i64.wrap ((Rate.when_ b at_ many) - 1)) many).has), .int .i64 ((Rate.take b (IntKind.i64.wrap ((Rate.when_ b at_ many) - 1)) many).at_)]) rfl rfl) rfl rfl rfl ?_
        refine o_pure (p_extract (vs := [.agg #[.int .i64 ((Rate.take b (IntKind.i64.wrap ((Rate.when_ b at_ many) - 1)) many).most), .int .i64 ((Rate.take b (IntKind.i64.wrap ((Rate.when_ b at_ many) - 1)) many).every), .int .i64 ((Rate.take b (IntKind.i64.wrap ((Rate.when_ b at_ many) - 1)) many).has), .int .i64 ((Rate.take b (IntKind.i64.wrap ((Rate.when_ b at_ many) - 1)) many).at_)], .bool (Rate.can b (IntKind.i64.wrap ((Rate.when_ b at_ many) - 1)) many), .int .i64 (Rate.err b (IntKind.i64.wrap ((Rate.when_ b at_ many) - 1)) many)]) (v := .bool (Rate.can b (IntKind.i64.wrap ((Rate.when_ b at_ many) - 1)) many)) rfl rfl) rfl rfl rfl ?_
        refine o_pure (p_extract (vs := [.agg #[.int .i64 ((Rate.take b (IntKind.i64.wrap ((Rate.when_ b at_ many) - 1)) many).most), .int .i64 ((Rate.take b (IntKind.i64.wrap ((Rate.when_ b at_ many) - 1)) many).every), .int .i64 ((Rate.take b (IntKind.i64.wrap ((Rate.when_ b at_ many) - 1)) many).has), .int .i64 ((Rate.take b (IntKind.i64.wrap ((Rate.when_ b at_ many) - 1)) many).at_)], .bool (Rate.can b (IntKind.i64.wrap ((Rate.when_ b at_ many) - 1)) many), .int .i64 (Rate.err b (IntKind.i64.wrap ((Rate.when_ b at_ many) - 1)) many)]) (v := .int .i64 (Rate.err b (IntKind.i64.wrap ((Rate.when_ b at_ many) - 1)) many)) rfl rfl) rfl rfl rfl ?_
        refine o_alloc ze53 rfl (fun B8 => ?_)
        refine o_storeN (i := 0) (vs := [.int .i64 ((Rate.take b (IntKind.i64.wrap ((Rate.when_ b at_ many) - 1)) many).most), .int .i64 ((Rate.take b (IntKind.i64.wrap ((Rate.when_ b at_ many) - 1)) many).every), .int .i64 ((Rate.take b (IntKind.i64.wrap ((Rate.when_ b at_ many) - 1)) many).has), .int .i64 ((Rate.take b (IntKind.i64.wrap ((Rate.when_ b at_ many) - 1)) many).at_)]) (cs' := [.int .i64 ((Rate.take b (IntKind.i64.wrap ((Rate.when_ b at_ many) - 1)) many).most), .int .i64 ((Rate.take b (IntKind.i64.wrap ((Rate.when_ b at_ many) - 1)) many).every), .int .i64 ((Rate.take b (IntKind.i64.wrap ((Rate.when_ b at_ many) - 1)) many).has), .int .i64 ((Rate.take b (IntKind.i64.wrap ((Rate.when_ b at_ many) - 1)) many).at_)]) rfl rfl rfl sz53 rfl rfl rfl rfl ?_
        refine o_pure (p_assign (v := .bool (Rate.can b (IntKind.i64.wrap ((Rate.when_ b at_ many) - 1)) many)) rfl) rfl rfl rfl ?_
        refine o_pure (p_assign (v := .int .i64 (Rate.err b (IntKind.i64.wrap ((Rate.when_ b at_ many) - 1)) many)) rfl) rfl rfl rfl ?_
        refine o_nil ?_
        refine q_then ?_
        refine c_seq ?_
        refine c_region ?_
        refine o_pure (p_move (v := .int .i64 (Rate.err b (IntKind.i64.wrap ((Rate.when_ b at_ many) - 1)) many)) rfl) rfl rfl rfl ?_
        refine o_pure (p_eq (p := (Rate.err b (IntKind.i64.wrap ((Rate.when_ b at_ many) - 1)) many)) (q := 0) rfl rfl) rfl rfl rfl ?_
        refine o_pure (p_move (v := .bool ((Rate.err b (IntKind.i64.wrap ((Rate.when_ b at_ many) - 1)) many) == 0)) rfl) rfl rfl rfl ?_
        refine o_and (p := 64) 3 (!(Rate.can b (IntKind.i64.wrap ((Rate.when_ b at_ many) - 1)) many)) ?_ ?_ ?_
        · intro hb9 hk
          simp only [beq_iff_eq] at hb9
          refine o_unguard 61 rfl rfl ?_
          refine o_pure (p_move (v := .bool (Rate.can b (IntKind.i64.wrap ((Rate.when_ b at_ many) - 1)) many)) rfl) rfl rfl rfl ?_
          refine o_unguard 61 rfl rfl ?_
          refine o_pure (p_not (b := (Rate.can b (IntKind.i64.wrap ((Rate.when_ b at_ many) - 1)) many)) rfl) rfl rfl rfl ?_
          refine o_pure (p_pick_true (u := .bool (!(Rate.can b (IntKind.i64.wrap ((Rate.when_ b at_ many) - 1)) many))) rfl rfl) rfl rfl rfl ?_
          exact o_sub (Sub.cons rfl (Sub.skip rfl (Sub.skip rfl (Sub.skip rfl (Sub.skip rfl (Sub.refl _)))))) hk
        · intro hb9 hk
          refine o_guard_no rfl 61 rfl rfl rfl rfl rfl ?_
          refine o_guard_no rfl 61 rfl rfl rfl rfl rfl ?_
          refine o_pure (p_pick_false (v := .bool false) rfl rfl) rfl rfl rfl ?_
          exact o_sub (Sub.cons rfl (Sub.skip rfl (Sub.skip rfl (Sub.skip rfl (Sub.skip rfl (Sub.refl _)))))) hk
        refine o_pure (p_assign (v := .bool (((Rate.err b (IntKind.i64.wrap ((Rate.when_ b at_ many) - 1)) many) == 0) && (!(Rate.can b (IntKind.i64.wrap ((Rate.when_ b at_ many) - 1)) many)))) rfl) rfl rfl rfl ?_
        refine o_nil ?_
        refine q_then ?_
        refine c_ret ?_
        refine q_end0 (v := .bool (((Rate.err b (IntKind.i64.wrap ((Rate.when_ b at_ many) - 1)) many) == 0) && (!(Rate.can b (IntKind.i64.wrap ((Rate.when_ b at_ many) - 1)) many)))) (rt1 rfl (r_tmp rfl)) (i := 3) rfl ?_
        first
          | rfl
          | (rw [show Rate.when_ b at_ many = 0 from if_neg (by assumption)]; rfl)
          | (obtain ⟨w1, w2, w3, w4, w5, w6⟩ := Rate.when_law (b := b) (at_ := at_) (many := many) (by assumption)
             obtain ⟨w7, w8⟩ := w4 (by assumption)
             rw [Rate.wrap_ok (by omega), w7, w8]; rfl)
end Go.Proofs.Ythbfdhphnofacaa
