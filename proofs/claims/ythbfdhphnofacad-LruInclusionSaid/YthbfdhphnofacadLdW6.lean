/- The walks, printed by a program from the translation and a specification. -/
import Derived.Test.YthbfdhphnofacadLdF
import Derived.Test.YthbfdhphnofacadLrLaw2
import Derived.Test.YthbfdhphnofacadLdW5
namespace Go.Proofs.Ythbfdhphnofacad
open Go.Sx Go.RowKit
set_option maxHeartbeats 8000000 in
set_option maxRecDepth 100000 in
theorem lruInclusion_ok (l : List Int) (al : Option Addr) (cl : Nat) (small : Int) (great : Int) : Fn0 Try.prog 3 [.slice al l.length cl, .int .i64 small, .int .i64 great] (fun w => Rd tInt w al cl l) (.bool true) := by
  refine fn0 (nt := 65) (F0 := [(0, .slice al l.length cl), (1, .int .i64 small), (2, .int .i64 great)]) Try.func3 rfl Try.ntmps3 rfl rfl (fun w0 hpre => ?_)
  have hl := hpre
  have hlhl := hl.2.1
  refine c_seq ?_
  refine c_region ?_
  refine o_pure (p_assign (v := .bool false) rfl) rfl rfl rfl ?_
  refine o_nil ?_
  refine q_then ?_
  refine c_seq ?_
  refine c_region ?_
  refine o_pure (p_move (v := .int .i64 small) rfl) rfl rfl rfl ?_
  refine o_pure (p_build (cells := [.int .i64 small, .slice none 0 0]) fp24 ze24 rfl rfl) rfl rfl rfl ?_
  refine o_pure (p_move (v := .slice al l.length cl) rfl) rfl rfl rfl ?_
  refine o_callM rfl (lrun_ok (⟨small, []⟩ : DCache) none 0 l al cl) hf15 (fun w hw => ⟨rd_nil w hw, (rd_base (i := 0) rfl hl) w hw⟩) rfl (fun _ _ _ _ ha hA => SlO.agree ha hA) ?_
  rintro ⟨a3, c4⟩ S1
  refine o_know (fun w hw => own_len (i := 0) (T := tInt) hw rfl) (fun hlr5 => ?_)
  refine o_pure (p_move (v := .tuple #[.agg #[.int .i64 (((Lru.run (⟨small, []⟩ : DCache) l).1).room), .slice a3 (((Lru.run (⟨small, []⟩ : DCache) l).1).keys).length c4], .int .i64 ((Lru.run (⟨small, []⟩ : DCache) l).2), .int .i64 (Lru.runErr (⟨small, []⟩ : DCache) l)]) rfl) rfl rfl rfl ?_
  refine o_pure (p_extract (vs := [.agg #[.int .i64 (((Lru.run (⟨small, []⟩ : DCache) l).1).room), .slice a3 (((Lru.run (⟨small, []⟩ : DCache) l).1).keys).length c4], .int .i64 ((Lru.run (⟨small, []⟩ : DCache) l).2), .int .i64 (Lru.runErr (⟨small, []⟩ : DCache) l)]) (v := .agg #[.int .i64 (((Lru.run (⟨small, []⟩ : DCache) l).1).room), .slice a3 (((Lru.run (⟨small, []⟩ : DCache) l).1).keys).length c4]) rfl rfl) rfl rfl rfl ?_
  refine o_pure (p_extract (vs := [.agg #[.int .i64 (((Lru.run (⟨small, []⟩ : DCache) l).1).room), .slice a3 (((Lru.run (⟨small, []⟩ : DCache) l).1).keys).length c4], .int .i64 ((Lru.run (⟨small, []⟩ : DCache) l).2), .int .i64 (Lru.runErr (⟨small, []⟩ : DCache) l)]) (v := .int .i64 ((Lru.run (⟨small, []⟩ : DCache) l).2)) rfl rfl) rfl rfl rfl ?_
  refine o_pure (p_extract (vs := [.agg #[.int .i64 (((Lru.run (⟨small, []⟩ : DCache) l).1).room), .slice a3 (((Lru.run (⟨small, []⟩ : DCache) l).1).keys).length c4], .int .i64 ((Lru.run (⟨small, []⟩ : DCache) l).2), .int .i64 (Lru.runErr (⟨small, []⟩ : DCache) l)]) (v := .int .i64 (Lru.runErr (⟨small, []⟩ : DCache) l)) rfl rfl) rfl rfl rfl ?_
  refine o_alloc ze24 rfl (fun B6 => ?_)
  refine o_storeN (i := 0) (vs := [.int .i64 (((Lru.run (⟨small, []⟩ : DCache) l).1).room), .slice a3 (((Lru.run (⟨small, []⟩ : DCache) l).1).keys).length c4]) (cs' := [.int .i64 (((Lru.run (⟨small, []⟩ : DCache) l).1).room), .slice a3 (((Lru.run (⟨small, []⟩ : DCache) l).1).keys).length c4]) rfl rfl rfl sz24 rfl rfl rfl rfl ?_
  refine o_pure (p_assign (v := .int .i64 ((Lru.run (⟨small, []⟩ : DCache) l).2)) rfl) rfl rfl rfl ?_
  refine o_pure (p_assign (v := .int .i64 (Lru.runErr (⟨small, []⟩ : DCache) l)) rfl) rfl rfl rfl ?_
  refine o_nil ?_
  refine q_then ?_
  refine c_seq ?_
  refine c_region ?_
  refine o_pure (p_move (v := .int .i64 great) rfl) rfl rfl rfl ?_
  refine o_pure (p_build (cells := [.int .i64 great, .slice none 0 0]) fp24 ze24 rfl rfl) rfl rfl rfl ?_
  refine o_pure (p_move (v := .slice al l.length cl) rfl) rfl rfl rfl ?_
  refine o_callM rfl (lrun_ok (⟨great, []⟩ : DCache) none 0 l al cl) hf15 (fun w hw => ⟨rd_nil w hw, (rd_base (i := 2) rfl hl) w hw⟩) rfl (fun _ _ _ _ ha hA => SlO.agree ha hA) ?_
  rintro ⟨a9, c10⟩ S7
  refine o_know (fun w hw => own_len (i := 0) (T := tInt) hw rfl) (fun hlr11 => ?_)
  refine o_pure (p_move (v := .tuple #[.agg #[.int .i64 (((Lru.run (⟨great, []⟩ : DCache) l).1).room), .slice a9 (((Lru.run (⟨great, []⟩ : DCache) l).1).keys).length c10], .int .i64 ((Lru.run (⟨great, []⟩ : DCache) l).2), .int .i64 (Lru.runErr (⟨great, []⟩ : DCache) l)]) rfl) rfl rfl rfl ?_
  refine o_pure (p_extract (vs := [.agg #[.int .i64 (((Lru.run (⟨great, []⟩ : DCache) l).1).room), .slice a9 (((Lru.run (⟨great, []⟩ : DCache) l).1).keys).length c10], .int .i64 ((Lru.run (⟨great, []⟩ : DCache) l).2), .int .i64 (Lru.runErr (⟨great, []⟩ : DCache) l)]) (v := .agg #[.int .i64 (((Lru.run (⟨great, []⟩ : DCache) l).1).room), .slice a9 (((Lru.run (⟨great, []⟩ : DCache) l).1).keys).length c10]) rfl rfl) rfl rfl rfl ?_
  refine o_pure (p_extract (vs := [.agg #[.int .i64 (((Lru.run (⟨great, []⟩ : DCache) l).1).room), .slice a9 (((Lru.run (⟨great, []⟩ : DCache) l).1).keys).length c10], .int .i64 ((Lru.run (⟨great, []⟩ : DCache) l).2), .int .i64 (Lru.runErr (⟨great, []⟩ : DCache) l)]) (v := .int .i64 ((Lru.run (⟨great, []⟩ : DCache) l).2)) rfl rfl) rfl rfl rfl ?_
  refine o_pure (p_extract (vs := [.agg #[.int .i64 (((Lru.run (⟨great, []⟩ : DCache) l).1).room), .slice a9 (((Lru.run (⟨great, []⟩ : DCache) l).1).keys).length c10], .int .i64 ((Lru.run (⟨great, []⟩ : DCache) l).2), .int .i64 (Lru.runErr (⟨great, []⟩ : DCache) l)]) (v := .int .i64 (Lru.runErr (⟨great, []⟩ : DCache) l)) rfl rfl) rfl rfl rfl ?_
  refine o_alloc ze24 rfl (fun B12 => ?_)
  refine o_storeN (i := 0) (vs := [.int .i64 (((Lru.run (⟨great, []⟩ : DCache) l).1).room), .slice a9 (((Lru.run (⟨great, []⟩ : DCache) l).1).keys).length c10]) (cs' := [.int .i64 (((Lru.run (⟨great, []⟩ : DCache) l).1).room), .slice a9 (((Lru.run (⟨great, []⟩ : DCache) l).1).keys).length c10]) rfl rfl rfl sz24 rfl rfl rfl rfl ?_
  refine o_pure (p_assign (v := .int .i64 ((Lru.run (⟨great, []⟩ : DCache) l).2)) rfl) rfl rfl rfl ?_
  refine o_pure (p_assign (v := .int .i64 (Lru.runErr (⟨great, []⟩ : DCache) l)) rfl) rfl rfl rfl ?_
  refine o_nil ?_
  refine q_then ?_
  refine c_seq ?_
  refine c_seq ?_
  refine c_region ?_
  refine o_call0 (v := .bool true) rfl (lruBegun_ok ) hf16 (fun _ _ => trivial) rfl ?_
  refine o_pure (p_not (b := true) rfl) rfl rfl rfl ?_
  refine o_nil ?_
  refine q_then ?_
  refine c_false rfl ?_
  refine c_skip ?_
  refine q_then ?_
  refine c_seq ?_
  refine c_seq ?_
  refine c_region ?_
  refine o_pure (p_move (v := .int .i64 (Lru.runErr (⟨small, []⟩ : DCache) l)) rfl) rfl rfl rfl ?_
  refine o_pure (p_ne (p := (Lru.runErr (⟨small, []⟩ : DCache) l)) (q := 0) rfl rfl) rfl rfl rfl ?_
  refine o_pure (p_move (v := .bool ((Lru.runErr (⟨small, []⟩ : DCache) l) != 0)) rfl) rfl rfl rfl ?_
  refine o_or (p := 36) 3 ((Lru.runErr (⟨great, []⟩ : DCache) l) != 0) ?_ ?_ ?_
  · intro hb13 hk
    simp only [bne_eq_false_iff_eq] at hb13
    refine o_unguard 33 rfl rfl ?_
    refine o_pure (p_move (v := .int .i64 (Lru.runErr (⟨great, []⟩ : DCache) l)) rfl) rfl rfl rfl ?_
    refine o_unguard 33 rfl rfl ?_
    refine o_pure (p_ne (p := (Lru.runErr (⟨great, []⟩ : DCache) l)) (q := 0) rfl rfl) rfl rfl rfl ?_
    refine o_pure (p_pick_false (v := .bool ((Lru.runErr (⟨great, []⟩ : DCache) l) != 0)) rfl rfl) rfl rfl rfl ?_
    exact o_sub (Sub.cons rfl (Sub.skip rfl (Sub.skip rfl (Sub.skip rfl (Sub.skip rfl (Sub.refl _)))))) hk
  · intro hb13 hk
    refine o_guard_no rfl 33 rfl rfl rfl rfl rfl ?_
    refine o_guard_no rfl 33 rfl rfl rfl rfl rfl ?_
    refine o_pure (p_pick_true (u := .bool true) rfl rfl) rfl rfl rfl ?_
    exact o_sub (Sub.cons rfl (Sub.skip rfl (Sub.skip rfl (Sub.skip rfl (Sub.skip rfl (Sub.refl _)))))) hk
  refine o_pure (p_move (v := .bool (((Lru.runErr (⟨small, []⟩ : DCache) l) != 0) || ((Lru.runErr (⟨great, []⟩ : DCache) l) != 0))) rfl) rfl rfl rfl ?_
  refine o_or (p := 41) 4 (decide (great < small)) ?_ ?_ ?_
  · intro hb14 hk
    simp only [Bool.or_eq_false_iff, bne_eq_false_iff_eq] at hb14
    refine o_unguard 37 rfl rfl ?_
    refine o_pure (p_move (v := .int .i64 small) rfl) rfl rfl rfl ?_
    refine o_unguard 37 rfl rfl ?_
    refine o_pure (p_move (v := .int .i64 great) rfl) rfl rfl rfl ?_
    refine o_unguard 37 rfl rfl ?_
    refine o_pure (p_gt (p := small) (q := great) rfl rfl) rfl rfl rfl ?_
    refine o_pure (p_pick_false (v := .bool (decide (great < small))) rfl rfl) rfl rfl rfl ?_
    exact o_sub (Sub.cons rfl (Sub.skip rfl (Sub.skip rfl (Sub.skip rfl (Sub.skip rfl (Sub.skip rfl (Sub.refl _))))))) hk
  · intro hb14 hk
    refine o_guard_no rfl 37 rfl rfl rfl rfl rfl ?_
    refine o_guard_no rfl 37 rfl rfl rfl rfl rfl ?_
    refine o_guard_no rfl 37 rfl rfl rfl rfl rfl ?_
    refine o_pure (p_pick_true (u := .bool true) rfl rfl) rfl rfl rfl ?_
    exact o_sub (Sub.cons rfl (Sub.skip rfl (Sub.skip rfl (Sub.skip rfl (Sub.skip rfl (Sub.skip rfl (Sub.refl _))))))) hk
  refine o_nil ?_
  refine q_then ?_
  refine c_cond (b := ((((Lru.runErr (⟨small, []⟩ : DCache) l) != 0) || ((Lru.runErr (⟨great, []⟩ : DCache) l) != 0)) || decide (great < small))) rfl (fun hc15 => ?_) (fun hc15 => ?_)
  · simp only [Bool.or_eq_true, bne_iff_ne, ne_eq, decide_eq_true_eq] at hc15
    refine c_seq ?_
    refine c_region ?_
    refine o_pure (p_assign (v := .bool true) rfl) rfl rfl rfl ?_
    refine o_nil ?_
    refine q_then ?_
    refine c_ret ?_
    refine q_then_ret ?_
    refine q_end0 (v := .bool true) (rt1 rfl (r_tmp rfl)) (i := 4) rfl ?_
    exact rfl
  · simp only [Bool.or_eq_false_iff, bne_eq_false_iff_eq, decide_eq_false_iff_not, Int.not_lt] at hc15
    have hin := Lru.incl (l := l) (small := small) (great := great) (by simp_all) (by simp_all) (by simp_all)
    refine c_skip ?_
    refine q_then ?_
    refine c_seq ?_
    refine c_draw hmix (by kernel_rfl) ?_
    refine w_pure (p_move (v := .int .i64 ((Lru.run (⟨small, []⟩ : DCache) l).2)) rfl) rfl rfl rfl ?_
    refine w_pure (p_move (v := .int .i64 ((Lru.run (⟨great, []⟩ : DCache) l).2)) rfl) rfl rfl rfl ?_
    refine w_pure (p_le (p := ((Lru.run (⟨small, []⟩ : DCache) l).2)) (q := ((Lru.run (⟨great, []⟩ : DCache) l).2)) rfl rfl) rfl rfl rfl ?_
    refine w_pure (p_move (v := .bool (decide (((Lru.run (⟨small, []⟩ : DCache) l).2) ≤ ((Lru.run (⟨great, []⟩ : DCache) l).2)))) rfl) rfl rfl rfl ?_
    refine w_and (p := 53) 8 (decide (((((Lru.run (⟨small, []⟩ : DCache) l).1).keys).length : Int) ≤ ((((Lru.run (⟨great, []⟩ : DCache) l).1).keys).length : Int))) ?_ ?_ ?_
    · intro hb16 hk
      simp only [decide_eq_true_eq] at hb16
      refine w_unguard 45 rfl rfl ?_
      refine w_pure (p_fieldAddr (B := B6) (j := 0) (j' := 1) rfl fo24_1 rfl) rfl rfl rfl ?_
      refine w_unguard 45 rfl rfl ?_
      refine w_pure (p_load (i := 2) (v := .slice a3 (((Lru.run (⟨small, []⟩ : DCache) l).1).keys).length c4) rfl rfl sh22 rfl) rfl rfl rfl ?_
      refine w_unguard 45 rfl rfl ?_
      refine w_pure (p_len_slice (len := (((Lru.run (⟨small, []⟩ : DCache) l).1).keys).length) rfl rfl Try.underlying22) rfl rfl rfl ?_
      refine w_unguard 45 rfl rfl ?_
      refine w_pure (p_fieldAddr (B := B12) (j := 0) (j' := 1) rfl fo24_1 rfl) rfl rfl rfl ?_
      refine w_unguard 45 rfl rfl ?_
      refine w_pure (p_load (i := 0) (v := .slice a9 (((Lru.run (⟨great, []⟩ : DCache) l).1).keys).length c10) rfl rfl sh22 rfl) rfl rfl rfl ?_
      refine w_unguard 45 rfl rfl ?_
      refine w_pure (p_len_slice (len := (((Lru.run (⟨great, []⟩ : DCache) l).1).keys).length) rfl rfl Try.underlying22) rfl rfl rfl ?_
      refine w_unguard 45 rfl rfl ?_
      refine w_pure (p_le (p := ((((Lru.run (⟨small, []⟩ : DCache) l).1).keys).length : Int)) (q := ((((Lru.run (⟨great, []⟩ : DCache) l).1).keys).length : Int)) rfl rfl) rfl rfl rfl ?_
      refine w_pure (p_pick_true (u := .bool (decide (((((Lru.run (⟨small, []⟩ : DCache) l).1).keys).length : Int) ≤ ((((Lru.run (⟨great, []⟩ : DCache) l).1).keys).length : Int)))) rfl rfl) rfl rfl rfl ?_
      exact w_sub (Sub.cons rfl (Sub.skip rfl (Sub.skip rfl (Sub.skip rfl (Sub.skip rfl (Sub.skip rfl (Sub.skip rfl (Sub.skip rfl (Sub.skip rfl (Sub.skip rfl (Sub.refl _))))))))))) hk
    · intro hb16 hk
      refine w_guard_no rfl 45 rfl rfl rfl rfl rfl ?_
      refine w_guard_no rfl 45 rfl rfl rfl rfl rfl ?_
      refine w_guard_no rfl 45 rfl rfl rfl rfl rfl ?_
      refine w_guard_no rfl 45 rfl rfl rfl rfl rfl ?_
      refine w_guard_no rfl 45 rfl rfl rfl rfl rfl ?_
      refine w_guard_no rfl 45 rfl rfl rfl rfl rfl ?_
      refine w_guard_no rfl 45 rfl rfl rfl rfl rfl ?_
      refine w_pure (p_pick_false (v := .bool false) rfl rfl) rfl rfl rfl ?_
      exact w_sub (Sub.cons rfl (Sub.skip rfl (Sub.skip rfl (Sub.skip rfl (Sub.skip rfl (Sub.skip rfl (Sub.skip rfl (Sub.skip rfl (Sub.skip rfl (Sub.skip rfl (Sub.refl _))))))))))) hk
    refine w_pure (p_move (v := .bool (decide (((Lru.run (⟨small, []⟩ : DCache) l).2) ≤ ((Lru.run (⟨great, []⟩ : DCache) l).2)) && decide (((((Lru.run (⟨small, []⟩ : DCache) l).1).keys).length : Int) ≤ ((((Lru.run (⟨great, []⟩ : DCache) l).1).keys).length : Int)))) rfl) rfl rfl rfl ?_
    refine w_and (p := 64) 10 (Ref.sameInts (((Lru.run (⟨small, []⟩ : DCache) l).1).keys) ((((Lru.run (⟨great, []⟩ : DCache) l).1).keys).take (((((Lru.run (⟨small, []⟩ : DCache) l).1).keys).length : Int).toNat))) ?_ ?_ ?_
    · intro hb17 hk
      simp only [Bool.and_eq_true, decide_eq_true_eq] at hb17
      refine w_unguard 54 rfl rfl ?_
      refine w_pure (p_fieldAddr (B := B6) (j := 0) (j' := 1) rfl fo24_1 rfl) rfl rfl rfl ?_
      refine w_unguard 54 rfl rfl ?_
      refine w_pure (p_load (i := 2) (v := .slice a3 (((Lru.run (⟨small, []⟩ : DCache) l).1).keys).length c4) rfl rfl sh22 rfl) rfl rfl rfl ?_
      refine w_unguard 54 rfl rfl ?_
      refine w_pure (p_fieldAddr (B := B12) (j := 0) (j' := 1) rfl fo24_1 rfl) rfl rfl rfl ?_
      refine w_unguard 54 rfl rfl ?_
      refine w_pure (p_load (i := 0) (v := .slice a9 (((Lru.run (⟨great, []⟩ : DCache) l).1).keys).length c10) rfl rfl sh22 rfl) rfl rfl rfl ?_
      refine w_unguard 54 rfl rfl ?_
      refine w_pure (p_fieldAddr (B := B6) (j := 0) (j' := 1) rfl fo24_1 rfl) rfl rfl rfl ?_
      refine w_unguard 54 rfl rfl ?_
      refine w_pure (p_load (i := 2) (v := .slice a3 (((Lru.run (⟨small, []⟩ : DCache) l).1).keys).length c4) rfl rfl sh22 rfl) rfl rfl rfl ?_
      refine w_unguard 54 rfl rfl ?_
      refine w_pure (p_len_slice (len := (((Lru.run (⟨small, []⟩ : DCache) l).1).keys).length) rfl rfl Try.underlying22) rfl rfl rfl ?_
      refine w_unguard 54 rfl rfl ?_
      refine w_pure (p_sliceH (L := ((Lru.run (⟨great, []⟩ : DCache) l).1).keys) (T := tInt) (h := ((((Lru.run (⟨small, []⟩ : DCache) l).1).keys).length : Int)) rfl rfl Try.underlying22 sz3 (by omega) (by omega) (rd_own (i := 1) rfl)) rfl rfl rfl ?_
      refine w_unguard 54 rfl rfl ?_
      refine w_call0 (v := .bool (Ref.sameInts (((Lru.run (⟨small, []⟩ : DCache) l).1).keys) ((((Lru.run (⟨great, []⟩ : DCache) l).1).keys).take (((((Lru.run (⟨small, []⟩ : DCache) l).1).keys).length : Int).toNat)))) rfl (sameInts_ok (((Lru.run (⟨small, []⟩ : DCache) l).1).keys) a3 c4 ((((Lru.run (⟨great, []⟩ : DCache) l).1).keys).take (((((Lru.run (⟨small, []⟩ : DCache) l).1).keys).length : Int).toNat)) a9 c10) hf17 (fun w hw => ⟨(rd_own (i := 3) rfl) w hw, (rd_takeC (hi := ((((Lru.run (⟨small, []⟩ : DCache) l).1).keys).length : Int).toNat) (rd_own (i := 1) rfl) (by omega)) w hw⟩) rfl ?_
      refine w_pure (p_pick_true (u := .bool (Ref.sameInts (((Lru.run (⟨small, []⟩ : DCache) l).1).keys) ((((Lru.run (⟨great, []⟩ : DCache) l).1).keys).take (((((Lru.run (⟨small, []⟩ : DCache) l).1).keys).length : Int).toNat)))) rfl rfl) rfl rfl rfl ?_
      exact w_sub (Sub.cons rfl (Sub.skip rfl (Sub.skip rfl (Sub.skip rfl (Sub.skip rfl (Sub.skip rfl (Sub.skip rfl (Sub.skip rfl (Sub.skip rfl (Sub.skip rfl (Sub.skip rfl (Sub.skip rfl (Sub.refl _))))))))))))) hk
    · intro hb17 hk
      refine w_guard_no rfl 54 rfl rfl rfl rfl rfl ?_
      refine w_guard_no rfl 54 rfl rfl rfl rfl rfl ?_
      refine w_guard_no rfl 54 rfl rfl rfl rfl rfl ?_
      refine w_guard_no rfl 54 rfl rfl rfl rfl rfl ?_
      refine w_guard_no rfl 54 rfl rfl rfl rfl rfl ?_
      refine w_guard_no rfl 54 rfl rfl rfl rfl rfl ?_
      refine w_guard_no rfl 54 rfl rfl rfl rfl rfl ?_
      refine w_guard_no rfl 54 rfl rfl rfl rfl rfl ?_
      refine w_guard_no rfl 54 rfl rfl rfl rfl rfl ?_
      refine w_pure (p_pick_false (v := .bool false) rfl rfl) rfl rfl rfl ?_
      exact w_sub (Sub.cons rfl (Sub.skip rfl (Sub.skip rfl (Sub.skip rfl (Sub.skip rfl (Sub.skip rfl (Sub.skip rfl (Sub.skip rfl (Sub.skip rfl (Sub.skip rfl (Sub.skip rfl (Sub.skip rfl (Sub.refl _))))))))))))) hk
    refine w_pure (p_assign (v := .bool ((decide (((Lru.run (⟨small, []⟩ : DCache) l).2) ≤ ((Lru.run (⟨great, []⟩ : DCache) l).2)) && decide (((((Lru.run (⟨small, []⟩ : DCache) l).1).keys).length : Int) ≤ ((((Lru.run (⟨great, []⟩ : DCache) l).1).keys).length : Int))) && (Ref.sameInts (((Lru.run (⟨small, []⟩ : DCache) l).1).keys) ((((Lru.run (⟨great, []⟩ : DCache) l).1).keys).take (((((Lru.run (⟨small, []⟩ : DCache) l).1).keys).length : Int).toNat))))) rfl) rfl rfl rfl ?_
    refine w_nil ?_
    refine q_then ?_
    refine c_ret ?_
    have hr0 : (((decide (((Lru.run (⟨small, []⟩ : DCache) l).2) ≤ ((Lru.run (⟨great, []⟩ : DCache) l).2)) && decide (((((Lru.run (⟨small, []⟩ : DCache) l).1).keys).length : Int) ≤ ((((Lru.run (⟨great, []⟩ : DCache) l).1).keys).length : Int))) && (Ref.sameInts (((Lru.run (⟨small, []⟩ : DCache) l).1).keys) ((((Lru.run (⟨great, []⟩ : DCache) l).1).keys).take (((((Lru.run (⟨small, []⟩ : DCache) l).1).keys).length : Int).toNat)))) : Bool) = true := by
      first | rfl | simp [Ref.sameInts, hin.1, hin.2.1, ← hin.2.2]
    refine q_end0 (v := .bool ((decide (((Lru.run (⟨small, []⟩ : DCache) l).2) ≤ ((Lru.run (⟨great, []⟩ : DCache) l).2)) && decide (((((Lru.run (⟨small, []⟩ : DCache) l).1).keys).length : Int) ≤ ((((Lru.run (⟨great, []⟩ : DCache) l).1).keys).length : Int))) && (Ref.sameInts (((Lru.run (⟨small, []⟩ : DCache) l).1).keys) ((((Lru.run (⟨great, []⟩ : DCache) l).1).keys).take (((((Lru.run (⟨small, []⟩ : DCache) l).1).keys).length : Int).toNat))))) (rt1 rfl (r_tmp rfl)) (i := 4) rfl ?_
    exact (by have hcc := congrArg (fun (y0 : Bool) => (.bool y0 : Value)) hr0; exact hcc)
end Go.Proofs.Ythbfdhphnofacad
