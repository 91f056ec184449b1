/- The walks, printed by a program from the translation and a specification. -/
import Derived.Test.YthbfdhphnofacaaRtF
import Derived.Test.YthbfdhphnofacaaRtPure
import Derived.Test.YthbfdhphnofacaaRtW1
namespace Go.Proofs.Ythbfdhphnofacaa
open Go.Sx Go.RowKit
set_option maxHeartbeats 8000000 in
set_option maxRecDepth 100000 in
theorem advance_ok (b : DBucket) (at_ : Int) : Fn0 Try.prog 34 [.agg #[.int .i64 b.most, .int .i64 b.every, .int .i64 b.has, .int .i64 b.at_], .int .i64 at_] (fun _ => True) (.tuple #[.agg #[.int .i64 ((Rate.advance b at_).most), .int .i64 ((Rate.advance b at_).every), .int .i64 ((Rate.advance b at_).has), .int .i64 ((Rate.advance b at_).at_)], .int .i64 (Rate.check b at_)]) := by
  refine fn0 (nt := 17) (F0 := [(0, .agg #[.int .i64 b.most, .int .i64 b.every, .int .i64 b.has, .int .i64 b.at_]), (1, .int .i64 at_)]) Try.func34 rfl Try.ntmps34 rfl rfl (fun w0 hpre => ?_)
  refine c_seq ?_
  refine c_region ?_
  refine o_box (v := .agg #[.int .i64 b.most, .int .i64 b.every, .int .i64 b.has, .int .i64 b.at_]) rfl rfl (fun B1 => ?_)
  refine o_alloc ze53 rfl (fun B2 => ?_)
  refine o_pure (p_assign (v := .int .i64 0) rfl) rfl rfl rfl ?_
  refine o_nil ?_
  refine q_then ?_
  refine c_seq ?_
  refine c_seq ?_
  refine c_region ?_
  refine o_pure (p_load_agg (i := 1) (vs := [.int .i64 b.most, .int .i64 b.every, .int .i64 b.has, .int .i64 b.at_]) rfl rfl sh53 rfl rfl) rfl rfl rfl ?_
  refine o_pure (p_move (v := .int .i64 at_) rfl) rfl rfl rfl ?_
  refine o_call0 (v := .int .i64 (Rate.check b at_)) rfl (check_ok b at_) hf51 (fun _ _ => trivial) rfl ?_
  refine o_pure (p_assign (v := .int .i64 (Rate.check b at_)) rfl) rfl rfl rfl ?_
  refine o_nil ?_
  refine q_then ?_
  refine c_seq ?_
  refine c_region ?_
  refine o_pure (p_move (v := .int .i64 (Rate.check b at_)) rfl) rfl rfl rfl ?_
  refine o_pure (p_ne (p := (Rate.check b at_)) (q := 0) rfl rfl) rfl rfl rfl ?_
  refine o_nil ?_
  refine q_then ?_
  refine c_cond (b := ((Rate.check b at_) != 0)) rfl (fun hc3 => ?_) (fun hc3 => ?_)
  · simp only [bne_iff_ne, ne_eq] at hc3
    refine c_seq ?_
    refine c_region ?_
    refine o_pure (p_build (cells := [.int .i64 0, .int .i64 0, .int .i64 0, .int .i64 0]) fp53 ze53 rfl rfl) rfl rfl rfl ?_
    refine o_pure (p_move (v := .int .i64 (Rate.check b at_)) rfl) rfl rfl rfl ?_
    refine o_storeN (i := 0) (vs := [.int .i64 0, .int .i64 0, .int .i64 0, .int .i64 0]) (cs' := [.int .i64 0, .int .i64 0, .int .i64 0, .int .i64 0]) rfl rfl rfl sz53 rfl rfl rfl rfl ?_
    refine o_pure (p_assign (v := .int .i64 (Rate.check b at_)) rfl) rfl rfl rfl ?_
    refine o_nil ?_
    refine q_then ?_
    refine c_ret ?_
    refine q_then_ret ?_
    refine q_end0 (v := .tuple #[.agg #[.int .i64 0, .int .i64 0, .int .i64 0, .int .i64 0], .int .i64 (Rate.check b at_)]) (rt2 rfl (r_cell (i := 0) rfl rfl sh53 rfl) (r_tmp rfl)) (i := 2) rfl ?_
    first | (rw [show Rate.advance b at_ = Rate.gone b at_ from if_pos (by assumption)]; simp_all) | (rw [show Rate.advance b at_ = Rate.zero from if_neg (by assumption)]; rfl)
  · simp only [bne_eq_false_iff_eq] at hc3
    refine c_skip ?_
    refine q_then ?_
    refine c_seq ?_
    refine c_region ?_
    refine o_pure (p_load_agg (i := 1) (vs := [.int .i64 b.most, .int .i64 b.every, .int .i64 b.has, .int .i64 b.at_]) rfl rfl sh53 rfl rfl) rfl rfl rfl ?_
    refine o_pure (p_move (v := .int .i64 at_) rfl) rfl rfl rfl ?_
    refine o_call0 (v := .agg #[.int .i64 ((Rate.gone b at_).most), .int .i64 ((Rate.gone b at_).every), .int .i64 ((Rate.gone b at_).has), .int .i64 ((Rate.gone b at_).at_)]) rfl (gone_ok b at_ (by first | assumption | exact Rate.check_every (by assumption))) hf52 (fun _ _ => trivial) rfl ?_
    refine o_storeN (i := 0) (vs := [.int .i64 ((Rate.gone b at_).most), .int .i64 ((Rate.gone b at_).every), .int .i64 ((Rate.gone b at_).has), .int .i64 ((Rate.gone b at_).at_)]) (cs' := [.int .i64 ((Rate.gone b at_).most), .int .i64 ((Rate.gone b at_).every), .int .i64 ((Rate.gone b at_).has), .int .i64 ((Rate.gone b at_).at_)]) rfl rfl rfl sz53 rfl rfl rfl rfl ?_
    refine o_pure (p_assign (v := .int .i64 0) rfl) rfl rfl rfl ?_
    refine o_nil ?_
    refine q_then ?_
    refine c_ret ?_
    refine q_end0 (v := .tuple #[.agg #[.int .i64 ((Rate.gone b at_).most), .int .i64 ((Rate.gone b at_).every), .int .i64 ((Rate.gone b at_).has), .int .i64 ((Rate.gone b at_).at_)], .int .i64 0]) (rt2 rfl (r_cell (i := 0) rfl rfl sh53 rfl) (r_tmp rfl)) (i := 2) rfl ?_
    first | (rw [show Rate.advance b at_ = Rate.gone b at_ from if_pos (by assumption)]; simp_all) | (rw [show Rate.advance b at_ = Rate.zero from if_neg (by assumption)]; rfl)

set_option maxHeartbeats 8000000 in
set_option maxRecDepth 100000 in
theorem take_ok (b : DBucket) (at_ : Int) (many : Int) : Fn0 Try.prog 35 [.agg #[.int .i64 b.most, .int .i64 b.every, .int .i64 b.has, .int .i64 b.at_], .int .i64 at_, .int .i64 many] (fun _ => True) (.tuple #[.agg #[.int .i64 ((Rate.take b at_ many).most), .int .i64 ((Rate.take b at_ many).every), .int .i64 ((Rate.take b at_ many).has), .int .i64 ((Rate.take b at_ many).at_)], .bool (Rate.can b at_ many), .int .i64 (Rate.err b at_ many)]) := by
  refine fn0 (nt := 41) (F0 := [(0, .agg #[.int .i64 b.most, .int .i64 b.every, .int .i64 b.has, .int .i64 b.at_]), (1, .int .i64 at_), (2, .int .i64 many)]) Try.func35 rfl Try.ntmps35 rfl rfl (fun w0 hpre => ?_)
  refine c_seq ?_
  refine c_region ?_
  refine o_box (v := .agg #[.int .i64 b.most, .int .i64 b.every, .int .i64 b.has, .int .i64 b.at_]) rfl rfl (fun B1 => ?_)
  refine o_alloc ze53 rfl (fun B2 => ?_)
  refine o_pure (p_assign (v := .bool false) rfl) rfl rfl rfl ?_
  refine o_pure (p_assign (v := .int .i64 0) rfl) rfl rfl rfl ?_
  refine o_nil ?_
  refine q_then ?_
  refine c_seq ?_
  refine c_region ?_
  refine o_pure (p_load_agg (i := 1) (vs := [.int .i64 b.most, .int .i64 b.every, .int .i64 b.has, .int .i64 b.at_]) rfl rfl sh53 rfl rfl) rfl rfl rfl ?_
  refine o_pure (p_move (v := .int .i64 at_) rfl) rfl rfl rfl ?_
  refine o_call0 (v := .int .i64 (Rate.check b at_)) rfl (check_ok b at_) hf51 (fun _ _ => trivial) rfl ?_
  refine o_pure (p_assign (v := .int .i64 (Rate.check b at_)) rfl) rfl rfl rfl ?_
  refine o_nil ?_
  refine q_then ?_
  refine c_seq ?_
  refine c_seq ?_
  refine c_region ?_
  refine o_pure (p_move (v := .int .i64 (Rate.check b at_)) rfl) rfl rfl rfl ?_
  refine o_pure (p_eq (p := (Rate.check b at_)) (q := 0) rfl rfl) rfl rfl rfl ?_
  refine o_pure (p_move (v := .bool ((Rate.check b at_) == 0)) rfl) rfl rfl rfl ?_
  refine o_and (p := 21) 4 (!(Rate.some_ many)) ?_ ?_ ?_
  · intro hb3 hk
    simp only [beq_iff_eq] at hb3
    refine o_unguard 17 rfl rfl ?_
    refine o_pure (p_move (v := .int .i64 many) rfl) rfl rfl rfl ?_
    refine o_unguard 17 rfl rfl ?_
    refine o_call0 (v := .bool (Rate.some_ many)) rfl (some__ok many) hf53 (fun _ _ => trivial) rfl ?_
    refine o_unguard 17 rfl rfl ?_
    refine o_pure (p_not (b := (Rate.some_ many)) rfl) rfl rfl rfl ?_
    refine o_pure (p_pick_true (u := .bool (!(Rate.some_ many))) rfl rfl) rfl rfl rfl ?_
    exact o_sub (Sub.cons rfl (Sub.skip rfl (Sub.skip rfl (Sub.skip rfl (Sub.skip rfl (Sub.skip rfl (Sub.refl _))))))) hk
  · intro hb3 hk
    refine o_guard_no rfl 17 rfl rfl rfl rfl rfl ?_
    refine o_guard_no rfl 17 rfl rfl rfl rfl rfl ?_
    refine o_guard_no rfl 17 rfl rfl rfl rfl rfl ?_
    refine o_pure (p_pick_false (v := .bool false) rfl rfl) rfl rfl rfl ?_
    exact o_sub (Sub.cons rfl (Sub.skip rfl (Sub.skip rfl (Sub.skip rfl (Sub.skip rfl (Sub.skip rfl (Sub.refl _))))))) hk
  refine o_nil ?_
  refine q_then ?_
  refine c_cond (b := (((Rate.check b at_) == 0) && (!(Rate.some_ many)))) rfl (fun hc4 => ?_) (fun hc4 => ?_)
  · simp only [Bool.and_eq_true, beq_iff_eq, Bool.not_eq_true'] at hc4
    refine c_region ?_
    refine o_pure (p_assign (v := .int .i64 3) rfl) rfl rfl rfl ?_
    refine o_nil ?_
    refine q_then ?_
    refine c_seq ?_
    refine c_seq ?_
    refine c_region ?_
    refine o_pure (p_move (v := .int .i64 3) rfl) rfl rfl rfl ?_
    refine o_pure (p_ne (p := 3) (q := 0) rfl rfl) rfl rfl rfl ?_
    refine o_nil ?_
    refine q_then ?_
    refine c_true rfl ?_
    refine c_seq ?_
    refine c_region ?_
    refine o_pure (p_build (cells := [.int .i64 0, .int .i64 0, .int .i64 0, .int .i64 0]) fp53 ze53 rfl rfl) rfl rfl rfl ?_
    refine o_pure (p_move (v := .int .i64 3) rfl) rfl rfl rfl ?_
    refine o_storeN (i := 0) (vs := [.int .i64 0, .int .i64 0, .int .i64 0, .int .i64 0]) (cs' := [.int .i64 0, .int .i64 0, .int .i64 0, .int .i64 0]) rfl rfl rfl sz53 rfl rfl rfl rfl ?_
    refine o_pure (p_assign (v := .bool false) rfl) rfl rfl rfl ?_
    refine o_pure (p_assign (v := .int .i64 3) rfl) rfl rfl rfl ?_
    refine o_nil ?_
    refine q_then ?_
    refine c_ret ?_
    refine q_then_ret ?_
    refine q_end0 (v := .tuple #[.agg #[.int .i64 0, .int .i64 0, .int .i64 0, .int .i64 0], .bool false, .int .i64 3]) (rt3 rfl (r_cell (i := 0) rfl rfl sh53 rfl) (r_tmp rfl) (r_tmp rfl)) (i := 2) rfl ?_
    grind [Rate.take, Rate.can, Rate.err, Rate.zero, Rate.some_]
  · simp only [Bool.and_eq_false_iff, beq_eq_false_iff_ne, ne_eq, Bool.not_eq_false'] at hc4
    refine c_skip ?_
    refine q_then ?_
    refine c_seq ?_
    refine c_seq ?_
    refine c_region ?_
    refine o_pure (p_move (v := .int .i64 (Rate.check b at_)) rfl) rfl rfl rfl ?_
    refine o_pure (p_ne (p := (Rate.check b at_)) (q := 0) rfl rfl) rfl rfl rfl ?_
    refine o_nil ?_
    refine q_then ?_
    refine c_cond (b := ((Rate.check b at_) != 0)) rfl (fun hc5 => ?_) (fun hc5 => ?_)
    · simp only [bne_iff_ne, ne_eq] at hc5
      refine c_seq ?_
      refine c_region ?_
      refine o_pure (p_build (cells := [.int .i64 0, .int .i64 0, .int .i64 0, .int .i64 0]) fp53 ze53 rfl rfl) rfl rfl rfl ?_
      refine o_pure (p_move (v := .int .i64 (Rate.check b at_)) rfl) rfl rfl rfl ?_
      refine o_storeN (i := 0) (vs := [.int .i64 0, .int .i64 0, .int .i64 0, .int .i64 0]) (cs' := [.int .i64 0, .int .i64 0, .int .i64 0, .int .i64 0]) rfl rfl rfl sz53 rfl rfl rfl rfl ?_
      refine o_pure (p_assign (v := .bool false) rfl) rfl rfl rfl ?_
      refine o_pure (p_assign (v := .int .i64 (Rate.check b at_)) rfl) rfl rfl rfl ?_
      refine o_nil ?_
      refine q_then ?_
      refine c_ret ?_
      refine q_then_ret ?_
      refine q_end0 (v := .tuple #[.agg #[.int .i64 0, .int .i64 0, .int .i64 0, .int .i64 0], .bool false, .int .i64 (Rate.check b at_)]) (rt3 rfl (r_cell (i := 0) rfl rfl sh53 rfl) (r_tmp rfl) (r_tmp rfl)) (i := 2) rfl ?_
      grind [Rate.take, Rate.can, Rate.err, Rate.zero, Rate.some_]
    · simp only [bne_eq_false_iff_eq] at hc5
      refine c_skip ?_
      refine q_then ?_
      refine c_seq ?_
      refine c_region ?_
      refine o_pure (p_load_agg (i := 1) (vs := [.int .i64 b.most, .int .i64 b.every, .int .i64 b.has, .int .i64 b.at_]) rfl rfl sh53 rfl rfl) rfl rfl rfl ?_
      refine o_pure (p_move (v := .int .i64 at_) rfl) rfl rfl rfl ?_
      refine o_call0 (v := .agg #[.int .i64 ((Rate.gone b at_).most), .int .i64 ((Rate.gone b at_).every), .int .i64 ((Rate.gone b at_).has), .int .i64 ((Rate.gone b at_).at_)]) rfl (gone_ok b at_ (by first | assumption | exact Rate.check_every (by assumption))) hf52 (fun _ _ => trivial) rfl ?_
      refine o_alloc ze53 rfl (fun B6 => ?_)
      refine o_storeN (i := 0) (vs := [.int .i64 ((Rate.gone b at_).most), .int .i64 ((Rate.gone b at_).every), .int .i64 ((Rate.gone b at_).has), .int .i64 ((Rate.gone b at_).at_)]) (cs' := [.int .i64 ((Rate.gone b at_).most), .int .i64 ((Rate.gone b at_).every), .int .i64 ((Rate.gone b at_).has), .int .i64 ((Rate.gone b at_).at_)]) rfl rfl rfl sz53 rfl rfl rfl rfl ?_
      refine o_nil ?_
      refine q_then ?_
      refine c_seq ?_
      refine c_region ?_
      refine o_pure (p_fieldAddr (B := B6) (j := 0) (j' := 2) rfl fo53_2 rfl) rfl rfl rfl ?_
      refine o_pure (p_load (i := 0) (v := .int .i64 ((Rate.gone b at_).has)) rfl rfl sh3 rfl) rfl rfl rfl ?_
      refine o_pure (p_move (v := .int .i64 many) rfl) rfl rfl rfl ?_
      refine o_pure (p_ge (p := (Rate.gone b at_).has) (q := many) rfl rfl) rfl rfl rfl ?_
      refine o_pure (p_assign (v := .bool (decide (many ≤ (Rate.gone b at_).has))) rfl) rfl rfl rfl ?_
      refine o_nil ?_
      refine q_then ?_
      refine c_seq ?_
      refine c_seq ?_
      refine c_region ?_
      refine o_pure (p_move (v := .bool (decide (many ≤ (Rate.gone b at_).has))) rfl) rfl rfl rfl ?_
      refine o_nil ?_
      refine q_then ?_
      refine c_cond (b := decide (many ≤ (Rate.gone b at_).has)) rfl (fun hc7 => ?_) (fun hc7 => ?_)
      · simp only [decide_eq_true_eq] at hc7
        refine c_region ?_
        refine o_pure (p_fieldAddr (B := B6) (j := 0) (j' := 2) rfl fo53_2 rfl) rfl rfl rfl ?_
        refine o_pure (p_load (i := 0) (v := .int .i64 ((Rate.gone b at_).has)) rfl rfl sh3 rfl) rfl rfl rfl ?_
        refine o_pure (p_move (v := .int .i64 many) rfl) rfl rfl rfl ?_
        refine o_pure (p_sub (p := (Rate.gone b at_).has) (q := many) rfl rfl) rfl rfl rfl ?_
        refine o_pure (p_fieldAddr (B := B6) (j := 0) (j' := 2) rfl fo53_2 rfl) rfl rfl rfl ?_
        refine o_store (i := 0) (v := .int .i64 (IntKind.i64.wrap ((Rate.gone b at_).has - many))) (cs' := [.int .i64 ((Rate.gone b at_).most), .int .i64 ((Rate.gone b at_).every), .int .i64 (IntKind.i64.wrap ((Rate.gone b at_).has - many)), .int .i64 ((Rate.gone b at_).at_)]) rfl rfl rfl sz3 rfl rfl rfl ?_
        refine o_nil ?_
        refine q_then ?_
        refine c_seq ?_
        refine c_region ?_
        refine o_pure (p_load_agg (i := 0) (vs := [.int .i64 ((Rate.gone b at_).most), .int .i64 ((Rate.gone b at_).every), .int .i64 (IntKind.i64.wrap ((Rate.gone b at_).has - many)), .int .i64 ((Rate.gone b at_).at_)]) rfl rfl sh53 rfl rfl) rfl rfl rfl ?_
        refine o_pure (p_move (v := .bool (decide (many ≤ (Rate.gone b at_).has))) rfl) rfl rfl rfl ?_
        refine o_storeN (i := 1) (vs := [.int .i64 ((Rate.gone b at_).most), .int .i64 ((Rate.gone b at_).every), .int .i64 (IntKind.i64.wrap ((Rate.gone b at_).has - many)), .int .i64 ((Rate.gone b at_).at_)]) (cs' := [.int .i64 ((Rate.gone b at_).most), .int .i64 ((Rate.gone b at_).every), .int .i64 (IntKind.i64.wrap ((Rate.gone b at_).has - many)), .int .i64 ((Rate.gone b at_).at_)]) rfl rfl rfl sz53 rfl rfl rfl rfl ?_
        refine o_pure (p_assign (v := .bool (decide (many ≤ (Rate.gone b at_).has))) rfl) rfl rfl rfl ?_
        refine o_pure (p_assign (v := .int .i64 0) rfl) rfl rfl rfl ?_
        refine o_nil ?_
        refine q_then ?_
        refine c_ret ?_
        refine q_end0 (v := .tuple #[.agg #[.int .i64 ((Rate.gone b at_).most), .int .i64 ((Rate.gone b at_).every), .int .i64 (IntKind.i64.wrap ((Rate.gone b at_).has - many)), .int .i64 ((Rate.gone b at_).at_)], .bool (decide (many ≤ (Rate.gone b at_).has)), .int .i64 0]) (rt3 rfl (r_cell (i := 1) rfl rfl sh53 rfl) (r_tmp rfl) (r_tmp rfl)) (i := 3) rfl ?_
        grind [Rate.take, Rate.can, Rate.err, Rate.zero, Rate.some_]
      · simp only [decide_eq_false_iff_not, Int.not_le] at hc7
        refine c_skip ?_
        refine q_then ?_
        refine c_seq ?_
        refine c_region ?_
        refine o_pure (p_load_agg (i := 0) (vs := [.int .i64 ((Rate.gone b at_).most), .int .i64 ((Rate.gone b at_).every), .int .i64 ((Rate.gone b at_).has), .int .i64 ((Rate.gone b at_).at_)]) rfl rfl sh53 rfl rfl) rfl rfl rfl ?_
        refine o_pure (p_move (v := .bool (decide (many ≤ (Rate.gone b at_).has))) rfl) rfl rfl rfl ?_
        refine o_storeN (i := 1) (vs := [.int .i64 ((Rate.gone b at_).most), .int .i64 ((Rate.gone b at_).every), .int .i64 ((Rate.gone b at_).has), .int .i64 ((Rate.gone b at_).at_)]) (cs' := [.int .i64 ((Rate.gone b at_).most), .int .i64 ((Rate.gone b at_).every), .int .i64 ((Rate.gone b at_).has), .int .i64 ((Rate.gone b at_).at_)]) rfl rfl rfl sz53 rfl rfl rfl rfl ?_
        refine o_pure (p_assign (v := .bool (decide (many ≤ (Rate.gone b at_).has))) rfl) rfl rfl rfl ?_
        refine o_pure (p_assign (v := .int .i64 0) rfl) rfl rfl rfl ?_
        refine o_nil ?_
        refine q_then ?_
        refine c_ret ?_
        refine q_end0 (v := .tuple #[.agg #[.int .i64 ((Rate.gone b at_).most), .int .i64 ((Rate.gone b at_).every), .int .i64 ((Rate.gone b at_).has), .int .i64 ((Rate.gone b at_).at_)], .bool (decide (many ≤ (Rate.gone b at_).has)), .int .i64 0]) (rt3 rfl (r_cell (i := 1) rfl rfl sh53 rfl) (r_tmp rfl) (r_tmp rfl)) (i := 3) rfl ?_
        grind [Rate.take, Rate.can, Rate.err, Rate.zero, Rate.some_]
end Go.Proofs.Ythbfdhphnofacaa
