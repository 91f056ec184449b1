/- The walks, printed by a program from the translation and a specification. -/
import Derived.Test.YthbfdhphnofacaaRtF
import Derived.Test.YthbfdhphnofacaaRtPure
import Derived.Test.YthbfdhphnofacaaRtW5
import Derived.Test.YthbfdhphnofacaaRtLaw2
namespace Go.Proofs.Ythbfdhphnofacaa
open Go.Sx Go.RowKit
set_option maxHeartbeats 8000000 in
set_option maxRecDepth 100000 in
theorem rateParts_ok (b : DBucket) (at_ : Int) (to_ : Int) : Fn0 Try.prog 12 [.agg #[.int .i64 b.most, .int .i64 b.every, .int .i64 b.has, .int .i64 b.at_], .int .i64 at_, .int .i64 to_] (fun _ => True) (.bool true) := by
  refine fn0 (nt := 71) (F0 := [(0, .agg #[.int .i64 b.most, .int .i64 b.every, .int .i64 b.has, .int .i64 b.at_]), (1, .int .i64 at_), (2, .int .i64 to_)]) Try.func12 rfl Try.ntmps12 rfl rfl (fun w0 hpre => ?_)
  refine c_seq ?_
  refine c_region ?_
  refine o_box (v := .agg #[.int .i64 b.most, .int .i64 b.every, .int .i64 b.has, .int .i64 b.at_]) rfl rfl (fun B1 => ?_)
  refine o_pure (p_assign (v := .bool false) rfl) rfl rfl rfl ?_
  refine o_nil ?_
  refine q_then ?_
  refine c_seq ?_
  refine c_region ?_
  refine o_pure (p_load_agg (i := 0) (vs := [.int .i64 b.most, .int .i64 b.every, .int .i64 b.has, .int .i64 b.at_]) rfl rfl sh53 rfl rfl) rfl rfl rfl ?_
  refine o_pure (p_move (v := .int .i64 at_) rfl) rfl rfl rfl ?_
  refine o_call0 (v := .tuple #[.agg #[.int .i64 ((Rate.advance b at_).most), .int .i64 ((Rate.advance b at_).every), .int .i64 ((Rate.advance b at_).has), .int .i64 ((Rate.advance b at_).at_)], .int .i64 (Rate.check b at_)]) rfl (advance_ok b at_) hf34 (fun _ _ => trivial) rfl ?_
  refine o_pure (p_move (v := .tuple #[.agg #[.int .i64 ((Rate.advance b at_).most), .int .i64 ((Rate.advance b at_).every), .int .i64 ((Rate.advance b at_).has), .int .i64 ((Rate.advance b at_).at_)], .int .i64 (Rate.check b at_)]) rfl) rfl rfl rfl ?_
  refine o_pure (p_extract (vs := [.agg #[.int .i64 ((Rate.advance b at_).most), .int .i64 ((Rate.advance b at_).every), .int .i64 ((Rate.advance b at_).has), .int .i64 ((Rate.advance b at_).at_)], .int .i64 (Rate.check b at_)]) (v := .agg #[.int .i64 ((Rate.advance b at_).most), .int .i64 ((Rate.advance b at_).every), .int .i64 ((Rate.advance b at_).has), .int .i64 ((Rate.advance b at_).at_)]) rfl rfl) rfl rfl rfl ?_
  refine o_pure (p_extract (vs := [.agg #[.int .i64 ((Rate.advance b at_).most), .int .i64 ((Rate.advance b at_).every), .int .i64 ((Rate.advance b at_).has), .int .i64 ((Rate.advance b at_).at_)], .int .i64 (Rate.check b at_)]) (v := .int .i64 (Rate.check b at_)) rfl rfl) rfl rfl rfl ?_
  refine o_alloc ze53 rfl (fun B2 => ?_)
  refine o_storeN (i := 0) (vs := [.int .i64 ((Rate.advance b at_).most), .int .i64 ((Rate.advance b at_).every), .int .i64 ((Rate.advance b at_).has), .int .i64 ((Rate.advance b at_).at_)]) (cs' := [.int .i64 ((Rate.advance b at_).most), .int .i64 ((Rate.advance b at_).every), .int .i64 ((Rate.advance b at_).has), .int .i64 ((Rate.advance b at_).at_)]) rfl rfl rfl sz53 rfl rfl rfl rfl ?_
  refine o_pure (p_assign (v := .int .i64 (Rate.check b at_)) rfl) rfl rfl rfl ?_
  refine o_nil ?_
  refine q_then ?_
  refine c_seq ?_
  refine c_seq ?_
  refine c_region ?_
  refine o_call0 (v := .bool true) rfl (rateBegun_ok ) hf40 (fun _ _ => trivial) rfl ?_
  refine o_pure (p_not (b := true) rfl) rfl rfl rfl ?_
  refine o_nil ?_
  refine q_then ?_
  refine c_false rfl ?_
  refine c_skip ?_
  refine q_then ?_
  refine c_seq ?_
  refine c_seq ?_
  refine c_region ?_
  refine o_pure (p_move (v := .int .i64 (Rate.check b at_)) rfl) rfl rfl rfl ?_
  refine o_pure (p_ne (p := (Rate.check b at_)) (q := 0) rfl rfl) rfl rfl rfl ?_
  refine o_nil ?_
  refine q_then ?_
  refine c_cond (b := ((Rate.check b at_) != 0)) rfl (fun hc3 => ?_) (fun hc3 => ?_)
  · simp only [bne_iff_ne, ne_eq] at hc3
    refine c_seq ?_
    refine c_region ?_
    refine o_pure (p_load_agg (i := 0) (vs := [.int .i64 ((Rate.advance b at_).most), .int .i64 ((Rate.advance b at_).every), .int .i64 ((Rate.advance b at_).has), .int .i64 ((Rate.advance b at_).at_)]) rfl rfl sh53 rfl rfl) rfl rfl rfl ?_
    refine o_pure (p_build (cells := [.int .i64 0, .int .i64 0, .int .i64 0, .int .i64 0]) fp53 ze53 rfl rfl) rfl rfl rfl ?_
    refine o_pure (p_eqStruct (xs := [.int .i64 ((Rate.advance b at_).most), .int .i64 ((Rate.advance b at_).every), .int .i64 ((Rate.advance b at_).has), .int .i64 ((Rate.advance b at_).at_)]) (ys := [.int .i64 0, .int .i64 0, .int .i64 0, .int .i64 0]) (r := (((Rate.advance b at_).most == 0) && (((Rate.advance b at_).every == 0) && (((Rate.advance b at_).has == 0) && ((Rate.advance b at_).at_ == 0))))) rfl rfl eqS53) rfl rfl rfl ?_
    refine o_pure (p_assign (v := .bool (((Rate.advance b at_).most == 0) && (((Rate.advance b at_).every == 0) && (((Rate.advance b at_).has == 0) && ((Rate.advance b at_).at_ == 0))))) rfl) rfl rfl rfl ?_
    refine o_nil ?_
    refine q_then ?_
    refine c_ret ?_
    refine q_then_ret ?_
    refine q_end0 (v := .bool (((Rate.advance b at_).most == 0) && (((Rate.advance b at_).every == 0) && (((Rate.advance b at_).has == 0) && ((Rate.advance b at_).at_ == 0))))) (rt1 rfl (r_tmp rfl)) (i := 2) rfl ?_
    first
      | (rw [show Rate.advance b at_ = Rate.zero from if_neg (by assumption)]; rfl)
      | (rw [show Rate.advance (Rate.advance b at_) to_ = Rate.zero from if_neg (by assumption)]; rfl)
      | exact Rate.parts_ret (by assumption) (by assumption)
  · simp only [bne_eq_false_iff_eq] at hc3
    refine c_skip ?_
    refine q_then ?_
    refine c_seq ?_
    refine c_region ?_
    refine o_pure (p_load_agg (i := 0) (vs := [.int .i64 ((Rate.advance b at_).most), .int .i64 ((Rate.advance b at_).every), .int .i64 ((Rate.advance b at_).has), .int .i64 ((Rate.advance b at_).at_)]) rfl rfl sh53 rfl rfl) rfl rfl rfl ?_
    refine o_pure (p_move (v := .int .i64 to_) rfl) rfl rfl rfl ?_
    refine o_call0 (v := .tuple #[.agg #[.int .i64 ((Rate.advance (Rate.advance b at_) to_).most), .int .i64 ((Rate.advance (Rate.advance b at_) to_).every), .int .i64 ((Rate.advance (Rate.advance b at_) to_).has), .int .i64 ((Rate.advance (Rate.advance b at_) to_).at_)], .int .i64 (Rate.check (Rate.advance b at_) to_)]) rfl (advance_ok (Rate.advance b at_) to_) hf34 (fun _ _ => trivial) rfl ?_
    refine o_pure (p_move (v := .tuple #[.agg #[.int .i64 ((Rate.advance (Rate.advance b at_) to_).most), .int .i64 ((Rate.advance (Rate.advance b at_) to_).every), .int .i64 ((Rate.advance (Rate.advance b at_) to_).has), .int .i64 ((Rate.advance (Rate.advance b at_) to_).at_)], .int .i64 (Rate.check (Rate.advance b at_) to_)]) rfl) rfl rfl rfl ?_
    refine o_pure (p_extract (vs := [.agg #[.int .i64 ((Rate.advance (Rate.advance b at_) to_).most), .int .i64 ((Rate.advance (Rate.advance b at_) to_).every), .int .i64 ((Rate.advance (Rate.advance b at_) to_).has), .int .i64 ((Rate.advance (Rate.advance b at_) to_).at_)], .int .i64 (Rate.check (Rate.advance b at_) to_)]) (v := .agg #[.int .i64 ((Rate.advance (Rate.advance b at_) to_).most), .int .i64 ((Rate.advance (Rate.advance b at_) to_).every), .int .i64 ((Rate.advance (Rate.advance b at_) to_).has), .int .i64 ((Rate.advance (Rate.advance b at_) to_).at_)]) rfl rfl) rfl rfl rfl ?_
    refine o_pure (p_extract (vs := [.agg #[.int .i64 ((Rate.advance (Rate.advance b at_) to_).most), .int .i64 ((Rate.advance (Rate.advance b at_) to_).every), .int .i64 ((Rate.advance (Rate.advance b at_) to_).has), .int .i64 ((Rate.advance (Rate.advance b at_) to_).at_)], .int .i64 (Rate.check (Rate.advance b at_) to_)]) (v := .int .i64 (Rate.check (Rate.advance b at_) to_)) rfl rfl) rfl rfl rfl ?_
    refine o_alloc ze53 rfl (fun B4 => ?_)
    refine o_storeN (i := 0) (vs := [.int .i64 ((Rate.advance (Rate.advance b at_) to_).most), .int .i64 ((Rate.advance (Rate.advance b at_) to_).every), .int .i64 ((Rate.advance (Rate.advance b at_) to_).has), .int .i64 ((Rate.advance (Rate.advance b at_) to_).at_)]) (cs' := [.int .i64 ((Rate.advance (Rate.advance b at_) to_).most), .int .i64 ((Rate.advance (Rate.advance b at_) to_).every), .int .i64 ((Rate.advance (Rate.advance b at_) to_).has), .int .i64 ((Rate.advance (Rate.advance b at_) to_).at_)]) rfl rfl rfl sz53 rfl rfl rfl rfl ?_
    refine o_pure (p_assign (v := .int .i64 (Rate.check (Rate.advance b at_) to_)) rfl) rfl rfl rfl ?_
    refine o_nil ?_
    refine q_then ?_
    refine c_seq ?_
    refine c_seq ?_
    refine c_region ?_
    refine o_pure (p_move (v := .int .i64 (Rate.check (Rate.advance b at_) to_)) rfl) rfl rfl rfl ?_
    refine o_pure (p_ne (p := (Rate.check (Rate.advance b at_) to_)) (q := 0) rfl rfl) rfl rfl rfl ?_
    refine o_nil ?_
    refine q_then ?_
    refine c_cond (b := ((Rate.check (Rate.advance b at_) to_) != 0)) rfl (fun hc5 => ?_) (fun hc5 => ?_)
    · simp only [bne_iff_ne, ne_eq] at hc5
      refine c_seq ?_
      refine c_region ?_
      refine o_pure (p_load_agg (i := 0) (vs := [.int .i64 ((Rate.advance (Rate.advance b at_) to_).most), .int .i64 ((Rate.advance (Rate.advance b at_) to_).every), .int .i64 ((Rate.advance (Rate.advance b at_) to_).has), .int .i64 ((Rate.advance (Rate.advance b at_) to_).at_)]) rfl rfl sh53 rfl rfl) rfl rfl rfl ?_
      refine o_pure (p_build (cells := [.int .i64 0, .int .i64 0, .int .i64 0, .int .i64 0]) fp53 ze53 rfl rfl) rfl rfl rfl ?_
      refine o_pure (p_eqStruct (xs := [.int .i64 ((Rate.advance (Rate.advance b at_) to_).most), .int .i64 ((Rate.advance (Rate.advance b at_) to_).every), .int .i64 ((Rate.advance (Rate.advance b at_) to_).has), .int .i64 ((Rate.advance (Rate.advance b at_) to_).at_)]) (ys := [.int .i64 0, .int .i64 0, .int .i64 0, .int .i64 0]) (r := (((Rate.advance (Rate.advance b at_) to_).most == 0) && (((Rate.advance (Rate.advance b at_) to_).every == 0) && (((Rate.advance (Rate.advance b at_) to_).has == 0) && ((Rate.advance (Rate.advance b at_) to_).at_ == 0))))) rfl rfl eqS53) rfl rfl rfl ?_
      refine o_pure (p_assign (v := .bool (((Rate.advance (Rate.advance b at_) to_).most == 0) && (((Rate.advance (Rate.advance b at_) to_).every == 0) && (((Rate.advance (Rate.advance b at_) to_).has == 0) && ((Rate.advance (Rate.advance b at_) to_).at_ == 0))))) rfl) rfl rfl rfl ?_
      refine o_nil ?_
      refine q_then ?_
      refine c_ret ?_
      refine q_then_ret ?_
      refine q_end0 (v := .bool (((Rate.advance (Rate.advance b at_) to_).most == 0) && (((Rate.advance (Rate.advance b at_) to_).every == 0) && (((Rate.advance (Rate.advance b at_) to_).has == 0) && ((Rate.advance (Rate.advance b at_) to_).at_ == 0))))) (rt1 rfl (r_tmp rfl)) (i := 3) rfl ?_
      first
        | (rw [show Rate.advance b at_ = Rate.zero from if_neg (by assumption)]; rfl)
        | (rw [show Rate.advance (Rate.advance b at_) to_ = Rate.zero from if_neg (by assumption)]; rfl)
        | exact Rate.parts_ret (by assumption) (by assumption)
    · simp only [bne_eq_false_iff_eq] at hc5
      refine c_skip ?_
      refine q_then ?_
      refine c_seq ?_
      refine c_region ?_
      refine o_pure (p_load_agg (i := 2) (vs := [.int .i64 b.most, .int .i64 b.every, .int .i64 b.has, .int .i64 b.at_]) rfl rfl sh53 rfl rfl) rfl rfl rfl ?_
      refine o_pure (p_move (v := .int .i64 to_) rfl) rfl rfl rfl ?_
      refine o_call0 (v := .tuple #[.agg #[.int .i64 ((Rate.advance b to_).most), .int .i64 ((Rate.advance b to_).every), .int .i64 ((Rate.advance b to_).has), .int .i64 ((Rate.advance b to_).at_)], .int .i64 (Rate.check b to_)]) rfl (advance_ok b to_) hf34 (fun _ _ => trivial) rfl ?_
      refine o_pure (p_move (v := .tuple #[.agg #[.int .i64 ((Rate.advance b to_).most), .int .i64 ((Rate.advance b to_).every), .int .i64 ((Rate.advance b to_).has), .int .i64 ((Rate.advance b to_).at_)], .int .i64 (Rate.check b to_)]) rfl) rfl rfl rfl ?_
      refine o_pure (p_extract (vs := [.agg #[.int .i64 ((Rate.advance b to_).most), .int .i64 ((Rate.advance b to_).every), .int .i64 ((Rate.advance b to_).has), .int .i64 ((Rate.advance b to_).at_)], .int .i64 (Rate.check b to_)]) (v := .agg #[.int .i64 ((Rate.advance b to_).most), .int .i64 ((Rate.advance b to_).every), .int .i64 ((Rate.advance b to_).has), .int .i64 ((Rate.advance b to_).at_)]) rfl rfl) rfl rfl rfl ?_
      refine o_pure (p_extract (vs := [.agg #[.int .i64 ((Rate.advance b to_).most), .int .i64 ((Rate.advance b to_).every), .int .i64 ((Rate.advance b to_).has), .int .i64 ((Rate.advance b to_).at_)], .int .i64 (Rate.check b to_)]) (v := .int .i64 (Rate.check b to_)) rfl rfl) rfl rfl rfl ?_
      refine o_alloc ze53 rfl (fun B6 => ?_)
      refine o_storeN (i := 0) (vs := [.int .i64 ((Rate.advance b to_).most), .int .i64 ((Rate.advance b to_).every), .int .i64 ((Rate.advance b to_).has), .int .i64 ((Rate.advance b to_).at_)]) (cs' := [.int .i64 ((Rate.advance b to_).most), .int .i64 ((Rate.advance b to_).every), .int .i64 ((Rate.advance b to_).has), .int .i64 ((Rate.advance b to_).at_)]) rfl rfl rfl sz53 rfl rfl rfl rfl ?_
      refine o_pure (p_assign (v := .int .i64 (Rate.check b to_)) rfl) rfl rfl rfl ?_
      refine o_nil ?_
      refine q_then ?_
      refine c_seq ?_
      refine c_region ?_
      refine o_pure (p_move (v := .int .i64 (Rate.check b to_)) rfl) rfl rfl rfl ?_
      refine o_pure (p_eq (p := (Rate.check b to_)) (q := 0) rfl rfl) rfl rfl rfl ?_
      refine o_pure (p_move (v := .bool ((Rate.check b to_) == 0)) rfl) rfl rfl rfl ?_
      refine o_and (p := 51) 6 ((Rate.advance (Rate.advance b at_) to_).has == (Rate.advance b to_).has) ?_ ?_ ?_
      · intro hb7 hk
        simp only [beq_iff_eq] at hb7
        refine o_unguard 45 rfl rfl ?_
        refine o_pure (p_fieldAddr (B := B4) (j := 0) (j' := 2) rfl fo53_2 rfl) rfl rfl rfl ?_
        refine o_unguard 45 rfl rfl ?_
        refine o_pure (p_load (i := 1) (v := .int .i64 ((Rate.advance (Rate.advance b at_) to_).has)) rfl rfl sh3 rfl) rfl rfl rfl ?_
        refine o_unguard 45 rfl rfl ?_
        refine o_pure (p_fieldAddr (B := B6) (j := 0) (j' := 2) rfl fo53_2 rfl) rfl rfl rfl ?_
        refine o_unguard 45 rfl rfl ?_
        refine o_pure (p_load (i := 0) (v := .int .i64 ((Rate.advance b to_).has)) rfl rfl sh3 rfl) rfl rfl rfl ?_
        refine o_unguard 45 rfl rfl ?_
        refine o_pure (p_eq (p := (Rate.advance (Rate.advance b at_) to_).has) (q := (Rate.advance b to_).has) rfl rfl) rfl rfl rfl ?_
        refine o_pure (p_pick_true (u := .bool ((Rate.advance (Rate.advance b at_) to_).has == (Rate.advance b to_).has)) rfl rfl) rfl rfl rfl ?_
        exact o_sub (Sub.cons rfl (Sub.skip rfl (Sub.skip rfl (Sub.skip rfl (Sub.skip rfl (Sub.skip rfl (Sub.skip rfl (Sub.skip rfl (Sub.refl _))))))))) hk
      · intro hb7 hk
        refine o_guard_no rfl 45 rfl rfl rfl rfl rfl ?_
        refine o_guard_no rfl 45 rfl rfl rfl rfl rfl ?_
        refine o_guard_no rfl 45 rfl rfl rfl rfl rfl ?_
        refine o_guard_no rfl 45 rfl rfl rfl rfl rfl ?_
        refine o_guard_no rfl 45 rfl rfl rfl rfl rfl ?_
        refine o_pure (p_pick_false (v := .bool false) rfl rfl) rfl rfl rfl ?_
        exact o_sub (Sub.cons rfl (Sub.skip rfl (Sub.skip rfl (Sub.skip rfl (Sub.skip rfl (Sub.skip rfl (Sub.skip rfl (Sub.skip rfl (Sub.refl _))))))))) hk
      refine o_pure (p_move (v := .bool (((Rate.check b to_) == 0) && ((Rate.advance (Rate.advance b at_) to_).has == (Rate.advance b to_).has))) rfl) rfl rfl rfl ?_
      refine o_and (p := 63) 11 ((((Rate.advance (Rate.advance b at_) to_).most == (Rate.advance b to_).most) && (((Rate.advance (Rate.advance b at_) to_).every == (Rate.advance b to_).every) && (((Rate.advance (Rate.advance b at_) to_).has == (Rate.advance b to_).has) && ((Rate.advance (Rate.advance b at_) to_).at_ == (Rate.advance b to_).at_)))) || ((Rate.advance (Rate.advance b at_) to_).has == (Rate.advance (Rate.advance b at_) to_).most)) ?_ ?_ ?_
      · intro hb8 hk
        simp only [Bool.and_eq_true, beq_iff_eq] at hb8
        refine o_unguard 52 rfl rfl ?_
        refine o_pure (p_load_agg (i := 1) (vs := [.int .i64 ((Rate.advance (Rate.advance b at_) to_).most), .int .i64 ((Rate.advance (Rate.advance b at_) to_).every), .int .i64 ((Rate.advance (Rate.advance b at_) to_).has), .int .i64 ((Rate.advance (Rate.advance b at_) to_).at_)]) rfl rfl sh53 rfl rfl) rfl rfl rfl ?_
        refine o_unguard 52 rfl rfl ?_
        refine o_pure (p_load_agg (i := 0) (vs := [.int .i64 ((Rate.advance b to_).most), .int .i64 ((Rate.advance b to_).every), .int .i64 ((Rate.advance b to_).has), .int .i64 ((Rate.advance b to_).at_)]) rfl rfl sh53 rfl rfl) rfl rfl rfl ?_
        refine o_unguard 52 rfl rfl ?_
        refine o_pure (p_eqStruct (xs := [.int .i64 ((Rate.advance (Rate.advance b at_) to_).most), .int .i64 ((Rate.advance (Rate.advance b at_) to_).every), .int .i64 ((Rate.advance (Rate.advance b at_) to_).has), .int .i64 ((Rate.advance (Rate.advance b at_) to_).at_)]) (ys := [.int .i64 ((Rate.advance b to_).most), .int .i64 ((Rate.advance b to_).every), .int .i64 ((Rate.advance b to_).has), .int .i64 ((Rate.advance b to_).at_)]) (r := (((Rate.advance (Rate.advance b at_) to_).most == (Rate.advance b to_).most) && (((Rate.advance (Rate.advance b at_) to_).every == (Rate.advance b to_).every) && (((Rate.advance (Rate.advance b at_) to_).has == (Rate.advance b to_).has) && ((Rate.advance (Rate.advance b at_) to_).at_ == (Rate.advance b to_).at_))))) rfl rfl eqS53) rfl rfl rfl ?_
        refine o_unguard 52 rfl rfl ?_
        refine o_pure (p_move (v := .bool (((Rate.advance (Rate.advance b at_) to_).most == (Rate.advance b to_).most) && (((Rate.advance (Rate.advance b at_) to_).every == (Rate.advance b to_).every) && (((Rate.advance (Rate.advance b at_) to_).has == (Rate.advance b to_).has) && ((Rate.advance (Rate.advance b at_) to_).at_ == (Rate.advance b to_).at_))))) rfl) rfl rfl rfl ?_
        refine o_or (p := 62) 6 ((Rate.advance (Rate.advance b at_) to_).has == (Rate.advance (Rate.advance b at_) to_).most) ?_ ?_ ?_
        · intro hb9 hk
          simp only [Bool.and_eq_false_iff, beq_eq_false_iff_ne, ne_eq] at hb9
          refine o_unguard 56 rfl rfl ?_
          refine o_pure (p_fieldAddr (B := B4) (j := 0) (j' := 2) rfl fo53_2 rfl) rfl rfl rfl ?_
          refine o_unguard 56 rfl rfl ?_
          refine o_pure (p_load (i := 1) (v := .int .i64 ((Rate.advance (Rate.advance b at_) to_).has)) rfl rfl sh3 rfl) rfl rfl rfl ?_
          refine o_unguard 56 rfl rfl ?_
          refine o_pure (p_fieldAddr (B := B4) (j := 0) (j' := 0) rfl fo53_0 rfl) rfl rfl rfl ?_
          refine o_unguard 56 rfl rfl ?_
          refine o_pure (p_load (i := 1) (v := .int .i64 ((Rate.advance (Rate.advance b at_) to_).most)) rfl rfl sh3 rfl) rfl rfl rfl ?_
          refine o_unguard 56 rfl rfl ?_
          refine o_pure (p_eq (p := (Rate.advance (Rate.advance b at_) to_).has) (q := (Rate.advance (Rate.advance b at_) to_).most) rfl rfl) rfl rfl rfl ?_
          refine o_unguard 52 rfl rfl ?_
          refine o_pure (p_pick_false (v := .bool ((Rate.advance (Rate.advance b at_) to_).has == (Rate.advance (Rate.advance b at_) to_).most)) rfl rfl) rfl rfl rfl ?_
          exact o_sub (Sub.cons rfl (Sub.skip rfl (Sub.skip rfl (Sub.skip rfl (Sub.skip rfl (Sub.skip rfl (Sub.skip rfl (Sub.skip rfl (Sub.refl _))))))))) hk
        · intro hb9 hk
          refine o_guard_no rfl 56 rfl rfl rfl rfl rfl ?_
          refine o_guard_no rfl 56 rfl rfl rfl rfl rfl ?_
          refine o_guard_no rfl 56 rfl rfl rfl rfl rfl ?_
          refine o_guard_no rfl 56 rfl rfl rfl rfl rfl ?_
          refine o_guard_no rfl 56 rfl rfl rfl rfl rfl ?_
          refine o_unguard 52 rfl rfl ?_
          refine o_pure (p_pick_true (u := .bool true) rfl rfl) rfl rfl rfl ?_
          exact o_sub (Sub.cons rfl (Sub.skip rfl (Sub.skip rfl (Sub.skip rfl (Sub.skip rfl (Sub.skip rfl (Sub.skip rfl (Sub.skip rfl (Sub.refl _))))))))) hk
        refine o_pure (p_pick_true (u := .bool ((((Rate.advance (Rate.advance b at_) to_).most == (Rate.advance b to_).most) && (((Rate.advance (Rate.advance b at_) to_).every == (Rate.advance b to_).every) && (((Rate.advance (Rate.advance b at_) to_).has == (Rate.advance b to_).has) && ((Rate.advance (Rate.advance b at_) to_).at_ == (Rate.advance b to_).at_)))) || ((Rate.advance (Rate.advance b at_) to_).has == (Rate.advance (Rate.advance b at_) to_).most))) rfl rfl) rfl rfl rfl ?_
        exact o_sub (Sub.cons rfl (Sub.skip rfl (Sub.skip rfl (Sub.skip rfl (Sub.skip rfl (Sub.skip rfl (Sub.skip rfl (Sub.refl _)))))))) hk
      · intro hb8 hk
        refine o_guard_no rfl 52 rfl rfl rfl rfl rfl ?_
        refine o_guard_no rfl 52 rfl rfl rfl rfl rfl ?_
        refine o_guard_no rfl 52 rfl rfl rfl rfl rfl ?_
        refine o_guard_no rfl 52 rfl rfl rfl rfl rfl ?_
        refine o_guard_no rfl 56 rfl rfl rfl rfl rfl ?_
        refine o_guard_no rfl 56 rfl rfl rfl rfl rfl ?_
        refine o_guard_no rfl 56 rfl rfl rfl rfl rfl ?_
        refine o_guard_no rfl 56 rfl rfl rfl rfl rfl ?_
        refine o_guard_no rfl 56 rfl rfl rfl rfl rfl ?_
        refine o_guard_no rfl 52 rfl rfl rfl rfl rfl ?_
        refine o_pure (p_pick_false (v := .bool false) rfl rfl) rfl rfl rfl ?_
        exact o_sub (Sub.cons rfl (Sub.skip rfl (Sub.skip rfl (Sub.skip rfl (Sub.skip rfl (Sub.skip rfl (Sub.skip rfl (Sub.skip rfl (Sub.skip rfl (Sub.skip rfl (Sub.skip rfl (Sub.skip rfl (Sub.skip rfl (Sub.refl _)))))))))))))) hk
      refine o_pure (p_move (v := .bool ((((Rate.check b to_) == 0) && ((Rate.advance (Rate.advance b at_) to_).has == (Rate.advance b to_).has)) && ((((Rate.advance (Rate.advance b at_) to_).most == (Rate.advance b to_).most) && (((Rate.advance (Rate.advance b at_) to_).every == (Rate.advance b to_).every) && (((Rate.advance (Rate.advance b at_) to_).has == (Rate.advance b to_).has) && ((Rate.advance (Rate.advance b at_) to_).at_ == (Rate.advance b to_).at_)))) || ((Rate.advance (Rate.advance b at_) to_).has == (Rate.advance (Rate.advance b at_) to_).most)))) rfl) rfl rfl rfl ?_
      refine o_and (p := 70) 6 (decide ((Rate.advance b at_).has ≤ (Rate.advance (Rate.advance b at_) to_).has)) ?_ ?_ ?_
      · intro hb10 hk
        simp only [Bool.and_eq_true, beq_iff_eq, Bool.or_eq_true] at hb10
        refine o_unguard 64 rfl rfl ?_
        refine o_pure (p_fieldAddr (B := B2) (j := 0) (j' := 2) rfl fo53_2 rfl) rfl rfl rfl ?_
        refine o_unguard 64 rfl rfl ?_
        refine o_pure (p_load (i := 2) (v := .int .i64 ((Rate.advance b at_).has)) rfl rfl sh3 rfl) rfl rfl rfl ?_
        refine o_unguard 64 rfl rfl ?_
        refine o_pure (p_fieldAddr (B := B4) (j := 0) (j' := 2) rfl fo53_2 rfl) rfl rfl rfl ?_
        refine o_unguard 64 rfl rfl ?_
        refine o_pure (p_load (i := 1) (v := .int .i64 ((Rate.advance (Rate.advance b at_) to_).has)) rfl rfl sh3 rfl) rfl rfl rfl ?_
        refine o_unguard 64 rfl rfl ?_
        refine o_pure (p_le (p := (Rate.advance b at_).has) (q := (Rate.advance (Rate.advance b at_) to_).has) rfl rfl) rfl rfl rfl ?_
        refine o_pure (p_pick_true (u := .bool (decide ((Rate.advance b at_).has ≤ (Rate.advance (Rate.advance b at_) to_).has))) rfl rfl) rfl rfl rfl ?_
        exact o_sub (Sub.cons rfl (Sub.skip rfl (Sub.skip rfl (Sub.skip rfl (Sub.skip rfl (Sub.skip rfl (Sub.skip rfl (Sub.skip rfl (Sub.refl _))))))))) hk
      · intro hb10 hk
        refine o_guard_no rfl 64 rfl rfl rfl rfl rfl ?_
        refine o_guard_no rfl 64 rfl rfl rfl rfl rfl ?_
        refine o_guard_no rfl 64 rfl rfl rfl rfl rfl ?_
        refine o_guard_no rfl 64 rfl rfl rfl rfl rfl ?_
        refine o_guard_no rfl 64 rfl rfl rfl rfl rfl ?_
        refine o_pure (p_pick_false (v := .bool false) rfl rfl) rfl rfl rfl ?_
        exact o_sub (Sub.cons rfl (Sub.skip rfl (Sub.skip rfl (Sub.skip rfl (Sub.skip rfl (Sub.skip rfl (Sub.skip rfl (Sub.skip rfl (Sub.refl _))))))))) hk
      refine o_pure (p_assign (v := .bool (((((Rate.check b to_) == 0) && ((Rate.advance (Rate.advance b at_) to_).has == (Rate.advance b to_).has)) && ((((Rate.advance (Rate.advance b at_) to_).most == (Rate.advance b to_).most) && (((Rate.advance (Rate.advance b at_) to_).every == (Rate.advance b to_).every) && (((Rate.advance (Rate.advance b at_) to_).has == (Rate.advance b to_).has) && ((Rate.advance (Rate.advance b at_) to_).at_ == (Rate.advance b to_).at_)))) || ((Rate.advance (Rate.advance b at_) to_).has == (Rate.advance (Rate.advance b at_) to_).most))) && decide ((Rate.advance b at_).has ≤ (Rate.advance (Rate.advance b at_) to_).has))) rfl) rfl rfl rfl ?_
      refine o_nil ?_
      refine q_then ?_
      refine c_ret ?_
      refine q_end0 (v := .bool (((((Rate.check b to_) == 0) && ((Rate.advance (Rate.advance b at_) to_).has == (Rate.advance b to_).has)) && ((((Rate.advance (Rate.advance b at_) to_).most == (Rate.advance b to_).most) && (((Rate.advance (Rate.advance b at_) to_).every == (Rate.advance b to_).every) && (((Rate.advance (Rate.advance b at_) to_).has == (Rate.advance b to_).has) && ((Rate.advance (Rate.advance b at_) to_).at_ == (Rate.advance b to_).at_)))) || ((Rate.advance (Rate.advance b at_) to_).has == (Rate.advance (Rate.advance b at_) to_).most))) && decide ((Rate.advance b at_).has ≤ (Rate.advance (Rate.advance b at_) to_).has))) (rt1 rfl (r_tmp rfl)) (i := 4) rfl ?_
      first
        | (rw [show Rate.advance b at_ = Rate.zero from if_neg (by assumption)]; rfl)
        | (rw [show Rate.advance (Rate.advance b at_) to_ = Rate.zero from if_neg (by assumption)]; rfl)
        | exact Rate.parts_ret (by assumption) (by assumption)
end Go.Proofs.Ythbfdhphnofacaa
