/- The walks, printed by a program from the translation and a specification. -/
import Derived.Test.YtgjdmnljnimamaaTiF
import Derived.Test.YtgjdmnljnimamaaTiLaw
import Derived.Test.YtgjdmnljnimamaaTiW10
namespace Go.Proofs.Ytgjdmnljnimamaa
open Go.Sx Go.RowKit
set_option maxHeartbeats 8000000 in
set_option maxRecDepth 100000 in
theorem tierMerged_ok (t : DTiers) (at_0 : Option Addr) (ct_0 : Nat) (at_1 : Option Addr) (ct_1 : Nat) (l : List Int) (al : Option Addr) (cl : Nat) : Fn0 Try.prog 9 [.agg #[.int .i64 t.near, .int .i64 t.far, .slice at_0 t.first.length ct_0, .slice at_1 t.rest.length ct_1], .slice al l.length cl] (fun w => Rd tInt w at_0 ct_0 t.first ∧ Rd tInt w at_1 ct_1 t.rest ∧ Rd tInt w al cl l) (.bool true) := by
  refine fn0 (nt := 84) (F0 := [(0, .agg #[.int .i64 t.near, .int .i64 t.far, .slice at_0 t.first.length ct_0, .slice at_1 t.rest.length ct_1]), (1, .slice al l.length cl)]) Try.func9 rfl Try.ntmps9 rfl rfl (fun w0 hpre => ?_)
  obtain ⟨ht_0, ht_1, hl⟩ := hpre
  have hlht_0 := ht_0.2.1
  have hlht_1 := ht_1.2.1
  have hlhl := hl.2.1
  refine c_seq ?_
  refine c_region ?_
  refine o_box (v := .agg #[.int .i64 t.near, .int .i64 t.far, .slice at_0 t.first.length ct_0, .slice at_1 t.rest.length ct_1]) rfl rfl (fun B1 => ?_)
  refine o_pure (p_assign (v := .bool false) rfl) rfl rfl rfl ?_
  refine o_nil ?_
  refine q_then ?_
  refine c_seq ?_
  refine c_region ?_
  refine o_pure (p_load_agg (i := 0) (vs := [.int .i64 t.near, .int .i64 t.far, .slice at_0 t.first.length ct_0, .slice at_1 t.rest.length ct_1]) rfl rfl sh43 rfl rfl) rfl rfl rfl ?_
  refine o_pure (p_move (v := .slice al l.length cl) rfl) rfl rfl rfl ?_
  refine o_callM rfl (trun_ok t at_0 ct_0 at_1 ct_1 l al cl) hf28 (fun w hw => ⟨(rd_base (i := 1) rfl ht_0) w hw, (rd_base (i := 1) rfl ht_1) w hw, (rd_base (i := 1) rfl hl) w hw⟩) rfl (fun _ _ _ _ ha hA => ⟨SlR.agree ha hA.1, SlR.agree ha hA.2⟩) ?_
  rintro ⟨a4, c5, a6, c7⟩ S2
  refine o_know (fun w hw => (hw.at (i := 0) rfl).here.1.2.1) (fun hlr8 => ?_)
  refine o_know (fun w hw => (hw.at (i := 0) rfl).here.2.2.1) (fun hlr9 => ?_)
  refine o_pure (p_move (v := .tuple #[.agg #[.int .i64 (((Tier.run t l).1).near), .int .i64 (((Tier.run t l).1).far), .slice a4 (((Tier.run t l).1).first).length c5, .slice a6 (((Tier.run t l).1).rest).length c7], .int .i64 ((Tier.run t l).2.1), .int .i64 ((Tier.run t l).2.2), .int .i64 (Tier.runErr t l)]) rfl) rfl rfl rfl ?_
  refine o_pure (p_extract (vs := [.agg #[.int .i64 (((Tier.run t l).1).near), .int .i64 (((Tier.run t l).1).far), .slice a4 (((Tier.run t l).1).first).length c5, .slice a6 (((Tier.run t l).1).rest).length c7], .int .i64 ((Tier.run t l).2.1), .int .i64 ((Tier.run t l).2.2), .int .i64 (Tier.runErr t l)]) (v := .agg #[.int .i64 (((Tier.run t l).1).near), .int .i64 (((Tier.run t l).1).far), .slice a4 (((Tier.run t l).1).first).length c5, .slice a6 (((Tier.run t l).1).rest).length c7]) rfl rfl) rfl rfl rfl ?_
  refine o_pure (p_extract (vs := [.agg #[.int .i64 (((Tier.run t l).1).near), .int .i64 (((Tier.run t l).1).far), .slice a4 (((Tier.run t l).1).first).length c5, .slice a6 (((Tier.run t l).1).rest).length c7], .int .i64 ((Tier.run t l).2.1), .int .i64 ((Tier.run t l).2.2), .int .i64 (Tier.runErr t l)]) (v := .int .i64 ((Tier.run t l).2.1)) rfl rfl) rfl rfl rfl ?_
  refine o_pure (p_extract (vs := [.agg #[.int .i64 (((Tier.run t l).1).near), .int .i64 (((Tier.run t l).1).far), .slice a4 (((Tier.run t l).1).first).length c5, .slice a6 (((Tier.run t l).1).rest).length c7], .int .i64 ((Tier.run t l).2.1), .int .i64 ((Tier.run t l).2.2), .int .i64 (Tier.runErr t l)]) (v := .int .i64 ((Tier.run t l).2.2)) rfl rfl) rfl rfl rfl ?_
  refine o_pure (p_extract (vs := [.agg #[.int .i64 (((Tier.run t l).1).near), .int .i64 (((Tier.run t l).1).far), .slice a4 (((Tier.run t l).1).first).length c5, .slice a6 (((Tier.run t l).1).rest).length c7], .int .i64 ((Tier.run t l).2.1), .int .i64 ((Tier.run t l).2.2), .int .i64 (Tier.runErr t l)]) (v := .int .i64 (Tier.runErr t l)) rfl rfl) rfl rfl rfl ?_
  refine o_alloc ze43 rfl (fun B10 => ?_)
  refine o_storeN (i := 0) (vs := [.int .i64 (((Tier.run t l).1).near), .int .i64 (((Tier.run t l).1).far), .slice a4 (((Tier.run t l).1).first).length c5, .slice a6 (((Tier.run t l).1).rest).length c7]) (cs' := [.int .i64 (((Tier.run t l).1).near), .int .i64 (((Tier.run t l).1).far), .slice a4 (((Tier.run t l).1).first).length c5, .slice a6 (((Tier.run t l).1).rest).length c7]) rfl rfl rfl sz43 rfl rfl rfl rfl ?_
  refine o_pure (p_assign (v := .int .i64 ((Tier.run t l).2.1)) rfl) rfl rfl rfl ?_
  refine o_pure (p_assign (v := .int .i64 ((Tier.run t l).2.2)) rfl) rfl rfl rfl ?_
  refine o_pure (p_assign (v := .int .i64 (Tier.runErr t l)) rfl) rfl rfl rfl ?_
  refine o_nil ?_
  refine q_then ?_
  refine c_seq ?_
  refine c_region ?_
  refine o_pure (p_load_agg (i := 2) (vs := [.int .i64 t.near, .int .i64 t.far, .slice at_0 t.first.length ct_0, .slice at_1 t.rest.length ct_1]) rfl rfl sh43 rfl rfl) rfl rfl rfl ?_
  refine o_callM rfl (tmerged_ok t at_0 ct_0 at_1 ct_1) hf29 (fun w hw => ⟨(rd_base (i := 3) rfl ht_0) w hw, (rd_base (i := 3) rfl ht_1) w hw⟩) rfl (fun _ _ _ _ ha hA => SlO.agree ha hA) ?_
  rintro ⟨a13, c14⟩ S11
  refine o_know (fun w hw => own_len (i := 0) (T := tInt) hw rfl) (fun hlr15 => ?_)
  refine o_pure (p_move (v := .tuple #[.agg #[.int .i64 ((Tier.merged t).room), .slice a13 ((Tier.merged t).keys).length c14], .int .i64 (Tier.check t)]) rfl) rfl rfl rfl ?_
  refine o_pure (p_extract (vs := [.agg #[.int .i64 ((Tier.merged t).room), .slice a13 ((Tier.merged t).keys).length c14], .int .i64 (Tier.check t)]) (v := .agg #[.int .i64 ((Tier.merged t).room), .slice a13 ((Tier.merged t).keys).length c14]) rfl rfl) rfl rfl rfl ?_
  refine o_pure (p_extract (vs := [.agg #[.int .i64 ((Tier.merged t).room), .slice a13 ((Tier.merged t).keys).length c14], .int .i64 (Tier.check t)]) (v := .int .i64 (Tier.check t)) rfl rfl) rfl rfl rfl ?_
  refine o_alloc ze48 rfl (fun B16 => ?_)
  refine o_storeN (i := 0) (vs := [.int .i64 ((Tier.merged t).room), .slice a13 ((Tier.merged t).keys).length c14]) (cs' := [.int .i64 ((Tier.merged t).room), .slice a13 ((Tier.merged t).keys).length c14]) rfl rfl rfl sz48 rfl rfl rfl rfl ?_
  refine o_pure (p_assign (v := .int .i64 (Tier.check t)) rfl) rfl rfl rfl ?_
  refine o_nil ?_
  refine q_then ?_
  refine c_seq ?_
  refine c_seq ?_
  refine c_region ?_
  refine o_call0 (v := .bool true) rfl (tierBegun_ok ) hf33 (fun _ _ => trivial) rfl ?_
  refine o_pure (p_not (b := true) rfl) rfl rfl rfl ?_
  refine o_nil ?_
  refine q_then ?_
  refine c_false rfl ?_
  refine c_skip ?_
  refine q_then ?_
  refine c_seq ?_
  refine c_seq ?_
  refine c_region ?_
  refine o_pure (p_move (v := .int .i64 (Tier.runErr t l)) rfl) rfl rfl rfl ?_
  refine o_pure (p_ne (p := (Tier.runErr t l)) (q := 0) rfl rfl) rfl rfl rfl ?_
  refine o_pure (p_move (v := .bool ((Tier.runErr t l) != 0)) rfl) rfl rfl rfl ?_
  refine o_or (p := 36) 3 ((Tier.check t) != 0) ?_ ?_ ?_
  · intro hb17 hk
    simp only [bne_eq_false_iff_eq] at hb17
    refine o_unguard 33 rfl rfl ?_
    refine o_pure (p_move (v := .int .i64 (Tier.check t)) rfl) rfl rfl rfl ?_
    refine o_unguard 33 rfl rfl ?_
    refine o_pure (p_ne (p := (Tier.check t)) (q := 0) rfl rfl) rfl rfl rfl ?_
    refine o_pure (p_pick_false (v := .bool ((Tier.check t) != 0)) rfl rfl) rfl rfl rfl ?_
    exact o_sub (Sub.cons rfl (Sub.skip rfl (Sub.skip rfl (Sub.skip rfl (Sub.skip rfl (Sub.refl _)))))) hk
  · intro hb17 hk
    refine o_guard_no rfl 33 rfl rfl rfl rfl rfl ?_
    refine o_guard_no rfl 33 rfl rfl rfl rfl rfl ?_
    refine o_pure (p_pick_true (u := .bool true) rfl rfl) rfl rfl rfl ?_
    exact o_sub (Sub.cons rfl (Sub.skip rfl (Sub.skip rfl (Sub.skip rfl (Sub.skip rfl (Sub.refl _)))))) hk
  refine o_nil ?_
  refine q_then ?_
  refine c_cond (b := (((Tier.runErr t l) != 0) || ((Tier.check t) != 0))) rfl (fun hc18 => ?_) (fun hc18 => ?_)
  · simp only [Bool.or_eq_true, bne_iff_ne, ne_eq] at hc18
    have hz := Tier.run_zero hc18
    refine c_seq ?_
    refine c_region ?_
    refine o_pure (p_fieldAddr (B := B10) (j := 0) (j' := 2) rfl fo43_2 rfl) rfl rfl rfl ?_
    refine o_pure (p_load (i := 2) (v := .slice a4 (((Tier.run t l).1).first).length c5) rfl rfl sh23 rfl) rfl rfl rfl ?_
    refine o_pure (p_len_slice (len := (((Tier.run t l).1).first).length) rfl rfl Try.underlying23) rfl rfl rfl ?_
    refine o_pure (p_fieldAddr (B := B10) (j := 0) (j' := 3) rfl fo43_3 rfl) rfl rfl rfl ?_
    refine o_pure (p_load (i := 2) (v := .slice a6 (((Tier.run t l).1).rest).length c7) rfl rfl sh23 rfl) rfl rfl rfl ?_
    refine o_pure (p_len_slice (len := (((Tier.run t l).1).rest).length) rfl rfl Try.underlying23) rfl rfl rfl ?_
    refine o_pure (p_addb (p := ((((Tier.run t l).1).first).length : Int)) (q := ((((Tier.run t l).1).rest).length : Int)) rfl rfl (by omega)) rfl rfl rfl ?_
    refine o_pure (p_eq (p := (((((Tier.run t l).1).first).length : Int) + ((((Tier.run t l).1).rest).length : Int))) (q := 0) rfl rfl) rfl rfl rfl ?_
    refine o_pure (p_assign (v := .bool ((((((Tier.run t l).1).first).length : Int) + ((((Tier.run t l).1).rest).length : Int)) == 0)) rfl) rfl rfl rfl ?_
    refine o_nil ?_
    refine q_then ?_
    refine c_ret ?_
    refine q_then_ret ?_
    have hr0 : (((((((Tier.run t l).1).first).length : Int) + ((((Tier.run t l).1).rest).length : Int)) == 0) : Bool) = true := by
      first | rfl | (rw [hz]; rfl) | (rw [m4]; simp [m1, m2, m3, Ref.sameInts]; done)
    refine q_end0 (v := .bool ((((((Tier.run t l).1).first).length : Int) + ((((Tier.run t l).1).rest).length : Int)) == 0)) (rt1 rfl (r_tmp rfl)) (i := 5) rfl ?_
    exact (by have hcc := congrArg (fun (y0 : Bool) => (.bool y0 : Value)) hr0; exact hcc)
  · simp only [Bool.or_eq_false_iff, bne_eq_false_iff_eq] at hc18
    obtain ⟨m1, m2, m3, m4⟩ := Tier.merged_fin hc18.1
    refine c_skip ?_
    refine q_then ?_
    refine c_seq ?_
    refine c_region ?_
    refine o_pure (p_load_agg (i := 0) (vs := [.int .i64 ((Tier.merged t).room), .slice a13 ((Tier.merged t).keys).length c14]) rfl rfl sh48 rfl rfl) rfl rfl rfl ?_
    refine o_pure (p_move (v := .slice al l.length cl) rfl) rfl rfl rfl ?_
    refine o_callM rfl (lrun_ok (Tier.merged t) a13 c14 l al cl) hf37 (fun w hw => ⟨(rd_own (i := 1) rfl) w hw, (rd_base (i := 5) rfl hl) w hw⟩) rfl (fun _ _ _ _ ha hA => SlO.agree ha hA) ?_
    rintro ⟨a21, c22⟩ S19
    refine o_know (fun w hw => own_len (i := 0) (T := tInt) hw rfl) (fun hlr23 => ?_)
    refine o_pure (p_move (v := .tuple #[.agg #[.int .i64 (((Lru.run (Tier.merged t) l).1).room), .slice a21 (((Lru.run (Tier.merged t) l).1).keys).length c22], .int .i64 ((Lru.run (Tier.merged t) l).2), .int .i64 (Lru.runErr (Tier.merged t) l)]) rfl) rfl rfl rfl ?_
    refine o_pure (p_extract (vs := [.agg #[.int .i64 (((Lru.run (Tier.merged t) l).1).room), .slice a21 (((Lru.run (Tier.merged t) l).1).keys).length c22], .int .i64 ((Lru.run (Tier.merged t) l).2), .int .i64 (Lru.runErr (Tier.merged t) l)]) (v := .agg #[.int .i64 (((Lru.run (Tier.merged t) l).1).room), .slice a21 (((Lru.run (Tier.merged t) l).1).keys).length c22]) rfl rfl) rfl rfl rfl ?_
    refine o_pure (p_extract (vs := [.agg #[.int .i64 (((Lru.run (Tier.merged t) l).1).room), .slice a21 (((Lru.run (Tier.merged t) l).1).keys).length c22], .int .i64 ((Lru.run (Tier.merged t) l).2), .int .i64 (Lru.runErr (Tier.merged t) l)]) (v := .int .i64 ((Lru.run (Tier.merged t) l).2)) rfl rfl) rfl rfl rfl ?_
    refine o_pure (p_extract (vs := [.agg #[.int .i64 (((Lru.run (Tier.merged t) l).1).room), .slice a21 (((Lru.run (Tier.merged t) l).1).keys).length c22], .int .i64 ((Lru.run (Tier.merged t) l).2), .int .i64 (Lru.runErr (Tier.merged t) l)]) (v := .int .i64 (Lru.runErr (Tier.merged t) l)) rfl rfl) rfl rfl rfl ?_
    refine o_alloc ze48 rfl (fun B24 => ?_)
    refine o_storeN (i := 0) (vs := [.int .i64 (((Lru.run (Tier.merged t) l).1).room), .slice a21 (((Lru.run (Tier.merged t) l).1).keys).length c22]) (cs' := [.int .i64 (((Lru.run (Tier.merged t) l).1).room), .slice a21 (((Lru.run (Tier.merged t) l).1).keys).length c22]) rfl rfl rfl sz48 rfl rfl rfl rfl ?_
    refine o_pure (p_assign (v := .int .i64 ((Lru.run (Tier.merged t) l).2)) rfl) rfl rfl rfl ?_
    refine o_pure (p_assign (v := .int .i64 (Lru.runErr (Tier.merged t) l)) rfl) rfl rfl rfl ?_
    refine o_nil ?_
    refine q_then ?_
    refine c_seq ?_
    refine c_region ?_
    refine o_pure (p_load_agg (i := 4) (vs := [.int .i64 (((Tier.run t l).1).near), .int .i64 (((Tier.run t l).1).far), .slice a4 (((Tier.run t l).1).first).length c5, .slice a6 (((Tier.run t l).1).rest).length c7]) rfl rfl sh43 rfl rfl) rfl rfl rfl ?_
    refine o_callM rfl (tmerged_ok ((Tier.run t l).1) a4 c5 a6 c7) hf29 (fun w hw => ⟨(rd_ent (i := 5) rfl (fun w h => h.1)) w hw, (rd_ent (i := 5) rfl (fun w h => h.2)) w hw⟩) rfl (fun _ _ _ _ ha hA => SlO.agree ha hA) ?_
    rintro ⟨a27, c28⟩ S25
    refine o_know (fun w hw => own_len (i := 0) (T := tInt) hw rfl) (fun hlr29 => ?_)
    refine o_pure (p_move (v := .tuple #[.agg #[.int .i64 ((Tier.merged ((Tier.run t l).1)).room), .slice a27 ((Tier.merged ((Tier.run t l).1)).keys).length c28], .int .i64 (Tier.check ((Tier.run t l).1))]) rfl) rfl rfl rfl ?_
    refine o_pure (p_extract (vs := [.agg #[.int .i64 ((Tier.merged ((Tier.run t l).1)).room), .slice a27 ((Tier.merged ((Tier.run t l).1)).keys).length c28], .int .i64 (Tier.check ((Tier.run t l).1))]) (v := .agg #[.int .i64 ((Tier.merged ((Tier.run t l).1)).room), .slice a27 ((Tier.merged ((Tier.run t l).1)).keys).length c28]) rfl rfl) rfl rfl rfl ?_
    refine o_pure (p_extract (vs := [.agg #[.int .i64 ((Tier.merged ((Tier.run t l).1)).room), .slice a27 ((Tier.merged ((Tier.run t l).1)).keys).length c28], .int .i64 (Tier.check ((Tier.run t l).1))]) (v := .int .i64 (Tier.check ((Tier.run t l).1))) rfl rfl) rfl rfl rfl ?_
    refine o_alloc ze48 rfl (fun B30 => ?_)
    refine o_storeN (i := 0) (vs := [.int .i64 ((Tier.merged ((Tier.run t l).1)).room), .slice a27 ((Tier.merged ((Tier.run t l).1)).keys).length c28]) (cs' := [.int .i64 ((Tier.merged ((Tier.run t l).1)).room), .slice a27 ((Tier.merged ((Tier.run t l).1)).keys).length c28]) rfl rfl rfl sz48 rfl rfl rfl rfl ?_
    refine o_pure (p_assign (v := .int .i64 (Tier.check ((Tier.run t l).1))) rfl) rfl rfl rfl ?_
    refine o_nil ?_
    refine q_then ?_
    refine c_seq ?_
    refine c_region ?_
    refine o_pure (p_move (v := .int .i64 (Lru.runErr (Tier.merged t) l)) rfl) rfl rfl rfl ?_
    refine o_pure (p_eq (p := (Lru.runErr (Tier.merged t) l)) (q := 0) rfl rfl) rfl rfl rfl ?_
    refine o_pure (p_move (v := .bool ((Lru.runErr (Tier.merged t) l) == 0)) rfl) rfl rfl rfl ?_
    refine o_and (p := 62) 3 ((Tier.check ((Tier.run t l).1)) == 0) ?_ ?_ ?_
    · intro hb31 hk
      simp only [beq_iff_eq] at hb31
      refine o_unguard 59 rfl rfl ?_
      refine o_pure (p_move (v := .int .i64 (Tier.check ((Tier.run t l).1))) rfl) rfl rfl rfl ?_
      refine o_unguard 59 rfl rfl ?_
      refine o_pure (p_eq (p := (Tier.check ((Tier.run t l).1))) (q := 0) rfl rfl) rfl rfl rfl ?_
      refine o_pure (p_pick_true (u := .bool ((Tier.check ((Tier.run t l).1)) == 0)) rfl rfl) rfl rfl rfl ?_
      exact o_sub (Sub.cons rfl (Sub.skip rfl (Sub.skip rfl (Sub.skip rfl (Sub.skip rfl (Sub.refl _)))))) hk
    · intro hb31 hk
      refine o_guard_no rfl 59 rfl rfl rfl rfl rfl ?_
      refine o_guard_no rfl 59 rfl rfl rfl rfl rfl ?_
      refine o_pure (p_pick_false (v := .bool false) rfl rfl) rfl rfl rfl ?_
      exact o_sub (Sub.cons rfl (Sub.skip rfl (Sub.skip rfl (Sub.skip rfl (Sub.skip rfl (Sub.refl _)))))) hk
    refine o_pure (p_move (v := .bool (((Lru.runErr (Tier.merged t) l) == 0) && ((Tier.check ((Tier.run t l).1)) == 0))) rfl) rfl rfl rfl ?_
    refine o_and (p := 69) 6 ((((Tier.run t l).2.1) + ((Tier.run t l).2.2)) == ((Lru.run (Tier.merged t) l).2)) ?_ ?_ ?_
    · intro hb32 hk
      simp only [Bool.and_eq_true, beq_iff_eq] at hb32
      refine o_unguard 63 rfl rfl ?_
      refine o_pure (p_move (v := .int .i64 ((Tier.run t l).2.1)) rfl) rfl rfl rfl ?_
      refine o_unguard 63 rfl rfl ?_
      refine o_pure (p_move (v := .int .i64 ((Tier.run t l).2.2)) rfl) rfl rfl rfl ?_
      refine o_unguard 63 rfl rfl ?_
      refine o_pure (p_addb (p := ((Tier.run t l).2.1)) (q := ((Tier.run t l).2.2)) rfl rfl (by have hb := Tier.run_small t l; omega)) rfl rfl rfl ?_
      refine o_unguard 63 rfl rfl ?_
      refine o_pure (p_move (v := .int .i64 ((Lru.run (Tier.merged t) l).2)) rfl) rfl rfl rfl ?_
      refine o_unguard 63 rfl rfl ?_
      refine o_pure (p_eq (p := (((Tier.run t l).2.1) + ((Tier.run t l).2.2))) (q := ((Lru.run (Tier.merged t) l).2)) rfl rfl) rfl rfl rfl ?_
      refine o_pure (p_pick_true (u := .bool ((((Tier.run t l).2.1) + ((Tier.run t l).2.2)) == ((Lru.run (Tier.merged t) l).2))) rfl rfl) rfl rfl rfl ?_
      exact o_sub (Sub.cons rfl (Sub.skip rfl (Sub.skip rfl (Sub.skip rfl (Sub.skip rfl (Sub.skip rfl (Sub.skip rfl (Sub.skip rfl (Sub.refl _))))))))) hk
    · intro hb32 hk
      refine o_guard_no rfl 63 rfl rfl rfl rfl rfl ?_
      refine o_guard_no rfl 63 rfl rfl rfl rfl rfl ?_
      refine o_guard_no rfl 63 rfl rfl rfl rfl rfl ?_
      refine o_guard_no rfl 63 rfl rfl rfl rfl rfl ?_
      refine o_guard_no rfl 63 rfl rfl rfl rfl rfl ?_
      refine o_pure (p_pick_false (v := .bool false) rfl rfl) rfl rfl rfl ?_
      exact o_sub (Sub.cons rfl (Sub.skip rfl (Sub.skip rfl (Sub.skip rfl (Sub.skip rfl (Sub.skip rfl (Sub.skip rfl (Sub.skip rfl (Sub.refl _))))))))) hk
    refine o_pure (p_move (v := .bool ((((Lru.runErr (Tier.merged t) l) == 0) && ((Tier.check ((Tier.run t l).1)) == 0)) && ((((Tier.run t l).2.1) + ((Tier.run t l).2.2)) == ((Lru.run (Tier.merged t) l).2)))) rfl) rfl rfl rfl ?_
    refine o_and (p := 76) 6 ((Tier.merged ((Tier.run t l).1)).room == ((Lru.run (Tier.merged t) l).1).room) ?_ ?_ ?_
    · intro hb33 hk
      simp only [Bool.and_eq_true, beq_iff_eq] at hb33
      refine o_unguard 70 rfl rfl ?_
      refine o_pure (p_fieldAddr (B := B30) (j := 0) (j' := 0) rfl fo48_0 rfl) rfl rfl rfl ?_
      refine o_unguard 70 rfl rfl ?_
      refine o_pure (p_load (i := 0) (v := .int .i64 ((Tier.merged ((Tier.run t l).1)).room)) rfl rfl sh3 rfl) rfl rfl rfl ?_
      refine o_unguard 70 rfl rfl ?_
      refine o_pure (p_fieldAddr (B := B24) (j := 0) (j' := 0) rfl fo48_0 rfl) rfl rfl rfl ?_
      refine o_unguard 70 rfl rfl ?_
      refine o_pure (p_load (i := 2) (v := .int .i64 (((Lru.run (Tier.merged t) l).1).room)) rfl rfl sh3 rfl) rfl rfl rfl ?_
      refine o_unguard 70 rfl rfl ?_
      refine o_pure (p_eq (p := (Tier.merged ((Tier.run t l).1)).room) (q := ((Lru.run (Tier.merged t) l).1).room) rfl rfl) rfl rfl rfl ?_
      refine o_pure (p_pick_true (u := .bool ((Tier.merged ((Tier.run t l).1)).room == ((Lru.run (Tier.merged t) l).1).room)) rfl rfl) rfl rfl rfl ?_
      exact o_sub (Sub.cons rfl (Sub.skip rfl (Sub.skip rfl (Sub.skip rfl (Sub.skip rfl (Sub.skip rfl (Sub.skip rfl (Sub.skip rfl (Sub.refl _))))))))) hk
    · intro hb33 hk
      refine o_guard_no rfl 70 rfl rfl rfl rfl rfl ?_
      refine o_guard_no rfl 70 rfl rfl rfl rfl rfl ?_
      refine o_guard_no rfl 70 rfl rfl rfl rfl rfl ?_
      refine o_guard_no rfl 70 rfl rfl rfl rfl rfl ?_
      refine o_guard_no rfl 70 rfl rfl rfl rfl rfl ?_
      refine o_pure (p_pick_false (v := .bool false) rfl rfl) rfl rfl rfl ?_
      exact o_sub (Sub.cons rfl (Sub.skip rfl (Sub.skip rfl (Sub.skip rfl (Sub.skip rfl (Sub.skip rfl (Sub.skip rfl (Sub.skip rfl (Sub.refl _))))))))) hk
    refine o_pure (p_move (v := .bool (((((Lru.runErr (Tier.merged t) l) == 0) && ((Tier.check ((Tier.run t l).1)) == 0)) && ((((Tier.run t l).2.1) + ((Tier.run t l).2.2)) == ((Lru.run (Tier.merged t) l).2))) && ((Tier.merged ((Tier.run t l).1)).room == ((Lru.run (Tier.merged t) l).1).room))) rfl) rfl rfl rfl ?_
    refine o_and (p := 83) 6 (Ref.sameInts ((Tier.merged ((Tier.run t l).1)).keys) (((Lru.run (Tier.merged t) l).1).keys)) ?_ ?_ ?_
    · intro hb34 hk
      simp only [Bool.and_eq_true, beq_iff_eq] at hb34
      refine o_unguard 77 rfl rfl ?_
      refine o_pure (p_fieldAddr (B := B30) (j := 0) (j' := 1) rfl fo48_1 rfl) rfl rfl rfl ?_
      refine o_unguard 77 rfl rfl ?_
      refine o_pure (p_load (i := 0) (v := .slice a27 ((Tier.merged ((Tier.run t l).1)).keys).length c28) rfl rfl sh23 rfl) rfl rfl rfl ?_
      refine o_unguard 77 rfl rfl ?_
      refine o_pure (p_fieldAddr (B := B24) (j := 0) (j' := 1) rfl fo48_1 rfl) rfl rfl rfl ?_
      refine o_unguard 77 rfl rfl ?_
      refine o_pure (p_load (i := 2) (v := .slice a21 (((Lru.run (Tier.merged t) l).1).keys).length c22) rfl rfl sh23 rfl) rfl rfl rfl ?_
      refine o_unguard 77 rfl rfl ?_
      refine o_call0 (v := .bool (Ref.sameInts ((Tier.merged ((Tier.run t l).1)).keys) (((Lru.run (Tier.merged t) l).1).keys))) rfl (sameInts_ok ((Tier.merged ((Tier.run t l).1)).keys) a27 c28 (((Lru.run (Tier.merged t) l).1).keys) a21 c22) hf26 (fun w hw => ⟨(rd_own (i := 1) rfl) w hw, (rd_own (i := 3) rfl) w hw⟩) rfl ?_
      refine o_pure (p_pick_true (u := .bool (Ref.sameInts ((Tier.merged ((Tier.run t l).1)).keys) (((Lru.run (Tier.merged t) l).1).keys))) rfl rfl) rfl rfl rfl ?_
      exact o_sub (Sub.cons rfl (Sub.skip rfl (Sub.skip rfl (Sub.skip rfl (Sub.skip rfl (Sub.skip rfl (Sub.skip rfl (Sub.skip rfl (Sub.refl _))))))))) hk
    · intro hb34 hk
      refine o_guard_no rfl 77 rfl rfl rfl rfl rfl ?_
      refine o_guard_no rfl 77 rfl rfl rfl rfl rfl ?_
      refine o_guard_no rfl 77 rfl rfl rfl rfl rfl ?_
      refine o_guard_no rfl 77 rfl rfl rfl rfl rfl ?_
      refine o_guard_no rfl 77 rfl rfl rfl rfl rfl ?_
      refine o_pure (p_pick_false (v := .bool false) rfl rfl) rfl rfl rfl ?_
      exact o_sub (Sub.cons rfl (Sub.skip rfl (Sub.skip rfl (Sub.skip rfl (Sub.skip rfl (Sub.skip rfl (Sub.skip rfl (Sub.skip rfl (Sub.refl _))))))))) hk
    refine o_pure (p_assign (v := .bool ((((((Lru.runErr (Tier.merged t) l) == 0) && ((Tier.check ((Tier.run t l).1)) == 0)) && ((((Tier.run t l).2.1) + ((Tier.run t l).2.2)) == ((Lru.run (Tier.merged t) l).2))) && ((Tier.merged ((Tier.run t l).1)).room == ((Lru.run (Tier.merged t) l).1).room)) && (Ref.sameInts ((Tier.merged ((Tier.run t l).1)).keys) (((Lru.run (Tier.merged t) l).1).keys)))) rfl) rfl rfl rfl ?_
    refine o_nil ?_
    refine q_then ?_
    refine c_ret ?_
    have hr0 : (((((((Lru.runErr (Tier.merged t) l) == 0) && ((Tier.check ((Tier.run t l).1)) == 0)) && ((((Tier.run t l).2.1) + ((Tier.run t l).2.2)) == ((Lru.run (Tier.merged t) l).2))) && ((Tier.merged ((Tier.run t l).1)).room == ((Lru.run (Tier.merged t) l).1).room)) && (Ref.sameInts ((Tier.merged ((Tier.run t l).1)).keys) (((Lru.run (Tier.merged t) l).1).keys))) : Bool) = true := by
      first | rfl | (rw [hz]; rfl) | (rw [m4]; simp [m1, m2, m3, Ref.sameInts]; done)
    refine q_end0 (v := .bool ((((((Lru.runErr (Tier.merged t) l) == 0) && ((Tier.check ((Tier.run t l).1)) == 0)) && ((((Tier.run t l).2.1) + ((Tier.run t l).2.2)) == ((Lru.run (Tier.merged t) l).2))) && ((Tier.merged ((Tier.run t l).1)).room == ((Lru.run (Tier.merged t) l).1).room)) && (Ref.sameInts ((Tier.merged ((Tier.run t l).1)).keys) (((Lru.run (Tier.merged t) l).1).keys)))) (rt1 rfl (r_tmp rfl)) (i := 9) rfl ?_
    exact (by have hcc := congrArg (fun (y0 : Bool) => (.bool y0 : Value)) hr0; exact hcc)

set_option maxHeartbeats 8000000 in
set_option maxRecDepth 100000 in
theorem tierNear_ok (t : DTiers) (at_0 : Option Addr) (ct_0 : Nat) (at_1 : Option Addr) (ct_1 : Nat) (l : List Int) (al : Option Addr) (cl : Nat) : Fn0 Try.prog 10 [.agg #[.int .i64 t.near, .int .i64 t.far, .slice at_0 t.first.length ct_0, .slice at_1 t.rest.length ct_1], .slice al l.length cl] (fun w => Rd tInt w at_0 ct_0 t.first ∧ Rd tInt w at_1 ct_1 t.rest ∧ Rd tInt w al cl l) (.bool true) := by
  refine fn0 (nt := 51) (F0 := [(0, .agg #[.int .i64 t.near, .int .i64 t.far, .slice at_0 t.first.length ct_0, .slice at_1 t.rest.length ct_1]), (1, .slice al l.length cl)]) Try.func10 rfl Try.ntmps10 rfl rfl (fun w0 hpre => ?_)
  obtain ⟨ht_0, ht_1, hl⟩ := hpre
  have hlht_0 := ht_0.2.1
  have hlht_1 := ht_1.2.1
  have hlhl := hl.2.1
  refine c_seq ?_
  refine c_region ?_
  refine o_box (v := .agg #[.int .i64 t.near, .int .i64 t.far, .slice at_0 t.first.length ct_0, .slice at_1 t.rest.length ct_1]) rfl rfl (fun B1 => ?_)
  refine o_pure (p_assign (v := .bool false) rfl) rfl rfl rfl ?_
  refine o_nil ?_
  refine q_then ?_
  refine c_seq ?_
  refine c_region ?_
  refine o_pure (p_load_agg (i := 0) (vs := [.int .i64 t.near, .int .i64 t.far, .slice at_0 t.first.length ct_0, .slice at_1 t.rest.length ct_1]) rfl rfl sh43 rfl rfl) rfl rfl rfl ?_
  refine o_pure (p_move (v := .slice al l.length cl) rfl) rfl rfl rfl ?_
  refine o_callM rfl (trun_ok t at_0 ct_0 at_1 ct_1 l al cl) hf28 (fun w hw => ⟨(rd_base (i := 1) rfl ht_0) w hw, (rd_base (i := 1) rfl ht_1) w hw, (rd_base (i := 1) rfl hl) w hw⟩) rfl (fun _ _ _ _ ha hA => ⟨SlR.agree ha hA.1, SlR.agree ha hA.2⟩) ?_
  rintro ⟨a4, c5, a6, c7⟩ S2
  refine o_know (fun w hw => (hw.at (i := 0) rfl).here.1.2.1) (fun hlr8 => ?_)
  refine o_know (fun w hw => (hw.at (i := 0) rfl).here.2.2.1) (fun hlr9 => ?_)
  refine o_pure (p_move (v := .tuple #[.agg #[.int .i64 (((Tier.run t l).1).near), .int .i64 (((Tier.run t l).1).far), .slice a4 (((Tier.run t l).1).first).length c5, .slice a6 (((Tier.run t l).1).rest).length c7], .int .i64 ((Tier.run t l).2.1), .int .i64 ((Tier.run t l).2.2), .int .i64 (Tier.runErr t l)]) rfl) rfl rfl rfl ?_
  refine o_pure (p_extract (vs := [.agg #[.int .i64 (((Tier.run t l).1).near), .int .i64 (((Tier.run t l).1).far), .slice a4 (((Tier.run t l).1).first).length c5, .slice a6 (((Tier.run t l).1).rest).length c7], .int .i64 ((Tier.run t l).2.1), .int .i64 ((Tier.run t l).2.2), .int .i64 (Tier.runErr t l)]) (v := .agg #[.int .i64 (((Tier.run t l).1).near), .int .i64 (((Tier.run t l).1).far), .slice a4 (((Tier.run t l).1).first).length c5, .slice a6 (((Tier.run t l).1).rest).length c7]) rfl rfl) rfl rfl rfl ?_
  refine o_pure (p_extract (vs := [.agg #[.int .i64 (((Tier.run t l).1).near), .int .i64 (((Tier.run t l).1).far), .slice a4 (((Tier.run t l).1).first).length c5, .slice a6 (((Tier.run t l).1).rest).length c7], .int .i64 ((Tier.run t l).2.1), .int .i64 ((Tier.run t l).2.2), .int .i64 (Tier.runErr t l)]) (v := .int .i64 ((Tier.run t l).2.1)) rfl rfl) rfl rfl rfl ?_
  refine o_pure (p_extract (vs := [.agg #[.int .i64 (((Tier.run t l).1).near), .int .i64 (((Tier.run t l).1).far), .slice a4 (((Tier.run t l).1).first).length c5, .slice a6 (((Tier.run t l).1).rest).length c7], .int .i64 ((Tier.run t l).2.1), .int .i64 ((Tier.run t l).2.2), .int .i64 (Tier.runErr t l)]) (v := .int .i64 ((Tier.run t l).2.2)) rfl rfl) rfl rfl rfl ?_
  refine o_pure (p_extract (vs := [.agg #[.int .i64 (((Tier.run t l).1).near), .int .i64 (((Tier.run t l).1).far), .slice a4 (((Tier.run t l).1).first).length c5, .slice a6 (((Tier.run t l).1).rest).length c7], .int .i64 ((Tier.run t l).2.1), .int .i64 ((Tier.run t l).2.2), .int .i64 (Tier.runErr t l)]) (v := .int .i64 (Tier.runErr t l)) rfl rfl) rfl rfl rfl ?_
  refine o_alloc ze43 rfl (fun B10 => ?_)
  refine o_storeN (i := 0) (vs := [.int .i64 (((Tier.run t l).1).near), .int .i64 (((Tier.run t l).1).far), .slice a4 (((Tier.run t l).1).first).length c5, .slice a6 (((Tier.run t l).1).rest).length c7]) (cs' := [.int .i64 (((Tier.run t l).1).near), .int .i64 (((Tier.run t l).1).far), .slice a4 (((Tier.run t l).1).first).length c5, .slice a6 (((Tier.run t l).1).rest).length c7]) rfl rfl rfl sz43 rfl rfl rfl rfl ?_
  refine o_pure (p_assign (v := .int .i64 ((Tier.run t l).2.1)) rfl) rfl rfl rfl ?_
  refine o_pure (p_assign (v := .int .i64 ((Tier.run t l).2.2)) rfl) rfl rfl rfl ?_
  refine o_pure (p_assign (v := .int .i64 (Tier.runErr t l)) rfl) rfl rfl rfl ?_
  refine o_nil ?_
  refine q_then ?_
  refine c_seq ?_
  refine c_region ?_
  refine o_pure (p_fieldAddr (B := B1) (j := 0) (j' := 0) rfl fo43_0 rfl) rfl rfl rfl ?_
  refine o_pure (p_load (i := 2) (v := .int .i64 t.near) rfl rfl sh3 rfl) rfl rfl rfl ?_
  refine o_pure (p_fieldAddr (B := B1) (j := 0) (j' := 2) rfl fo43_2 rfl) rfl rfl rfl ?_
  refine o_pure (p_load (i := 2) (v := .slice at_0 t.first.length ct_0) rfl rfl sh23 rfl) rfl rfl rfl ?_
  refine o_pure (p_build (cells := [.int .i64 t.near, .slice at_0 t.first.length ct_0]) fp48 ze48 rfl rfl) rfl rfl rfl ?_
  refine o_pure (p_move (v := .slice al l.length cl) rfl) rfl rfl rfl ?_
  refine o_callM rfl (lrun_ok (⟨t.near, t.first⟩ : DCache) at_0 ct_0 l al cl) hf37 (fun w hw => ⟨(rd_base (i := 3) rfl ht_0) w hw, (rd_base (i := 3) rfl hl) w hw⟩) rfl (fun _ _ _ _ ha hA => SlO.agree ha hA) ?_
  rintro ⟨a13, c14⟩ S11
  refine o_know (fun w hw => own_len (i := 0) (T := tInt) hw rfl) (fun hlr15 => ?_)
  refine o_pure (p_move (v := .tuple #[.agg #[.int .i64 (((Lru.run (⟨t.near, t.first⟩ : DCache) l).1).room), .slice a13 (((Lru.run (⟨t.near, t.first⟩ : DCache) l).1).keys).length c14], .int .i64 ((Lru.run (⟨t.near, t.first⟩ : DCache) l).2), .int .i64 (Lru.runErr (⟨t.near, t.first⟩ : DCache) l)]) rfl) rfl rfl rfl ?_
  refine o_pure (p_extract (vs := [.agg #[.int .i64 (((Lru.run (⟨t.near, t.first⟩ : DCache) l).1).room), .slice a13 (((Lru.run (⟨t.near, t.first⟩ : DCache) l).1).keys).length c14], .int .i64 ((Lru.run (⟨t.near, t.first⟩ : DCache) l).2), .int .i64 (Lru.runErr (⟨t.near, t.first⟩ : DCache) l)]) (v := .agg #[.int .i64 (((Lru.run (⟨t.near, t.first⟩ : DCache) l).1).room), .slice a13 (((Lru.run (⟨t.near, t.first⟩ : DCache) l).1).keys).length c14]) rfl rfl) rfl rfl rfl ?_
  refine o_pure (p_extract (vs := [.agg #[.int .i64 (((Lru.run (⟨t.near, t.first⟩ : DCache) l).1).room), .slice a13 (((Lru.run (⟨t.near, t.first⟩ : DCache) l).1).keys).length c14], .int .i64 ((Lru.run (⟨t.near, t.first⟩ : DCache) l).2), .int .i64 (Lru.runErr (⟨t.near, t.first⟩ : DCache) l)]) (v := .int .i64 ((Lru.run (⟨t.near, t.first⟩ : DCache) l).2)) rfl rfl) rfl rfl rfl ?_
  refine o_pure (p_extract (vs := [.agg #[.int .i64 (((Lru.run (⟨t.near, t.first⟩ : DCache) l).1).room), .slice a13 (((Lru.run (⟨t.near, t.first⟩ : DCache) l).1).keys).length c14], .int .i64 ((Lru.run (⟨t.near, t.first⟩ : DCache) l).2), .int .i64 (Lru.runErr (⟨t.near, t.first⟩ : DCache) l)]) (v := .int .i64 (Lru.runErr (⟨t.near, t.first⟩ : DCache) l)) rfl rfl) rfl rfl rfl ?_
  refine o_alloc ze48 rfl (fun B16 => ?_)
  refine o_storeN (i := 0) (vs := [.int .i64 (((Lru.run (⟨t.near, t.first⟩ : DCache) l).1).room), .slice a13 (((Lru.run (⟨t.near, t.first⟩ : DCache) l).1).keys).length c14]) (cs' := [.int .i64 (((Lru.run (⟨t.near, t.first⟩ : DCache) l).1).room), .slice a13 (((Lru.run (⟨t.near, t.first⟩ : DCache) l).1).keys).length c14]) rfl rfl rfl sz48 rfl rfl rfl rfl ?_
  refine o_pure (p_assign (v := .int .i64 ((Lru.run (⟨t.near, t.first⟩ : DCache) l).2)) rfl) rfl rfl rfl ?_
  refine o_pure (p_assign (v := .int .i64 (Lru.runErr (⟨t.near, t.first⟩ : DCache) l)) rfl) rfl rfl rfl ?_
  refine o_nil ?_
  refine q_then ?_
  refine c_seq ?_
  refine c_seq ?_
  refine c_region ?_
  refine o_call0 (v := .bool true) rfl (tierBegun_ok ) hf33 (fun _ _ => trivial) rfl ?_
  refine o_pure (p_not (b := true) rfl) rfl rfl rfl ?_
  refine o_nil ?_
  refine q_then ?_
  refine c_false rfl ?_
  refine c_skip ?_
  refine q_then ?_
  refine c_seq ?_
  refine c_seq ?_
  refine c_region ?_
  refine o_pure (p_move (v := .int .i64 (Tier.runErr t l)) rfl) rfl rfl rfl ?_
  refine o_pure (p_ne (p := (Tier.runErr t l)) (q := 0) rfl rfl) rfl rfl rfl ?_
  refine o_nil ?_
  refine q_then ?_
  refine c_cond (b := ((Tier.runErr t l) != 0)) rfl (fun hc17 => ?_) (fun hc17 => ?_)
  · simp only [bne_iff_ne, ne_eq] at hc17
    have hz := Tier.run_bad hc17
    refine c_seq ?_
    refine c_region ?_
    refine o_pure (p_move (v := .int .i64 ((Tier.run t l).2.1)) rfl) rfl rfl rfl ?_
    refine o_pure (p_eq (p := ((Tier.run t l).2.1)) (q := 0) rfl rfl) rfl rfl rfl ?_
    refine o_pure (p_assign (v := .bool (((Tier.run t l).2.1) == 0)) rfl) rfl rfl rfl ?_
    refine o_nil ?_
    refine q_then ?_
    refine c_ret ?_
    refine q_then_ret ?_
    have hr0 : ((((Tier.run t l).2.1) == 0) : Bool) = true := by
      first | rfl | (rw [hz]; rfl) | (simp [m1, m2, m3, Ref.sameInts]; done)
    refine q_end0 (v := .bool (((Tier.run t l).2.1) == 0)) (rt1 rfl (r_tmp rfl)) (i := 5) rfl ?_
    exact (by have hcc := congrArg (fun (y0 : Bool) => (.bool y0 : Value)) hr0; exact hcc)
  · simp only [bne_eq_false_iff_eq] at hc17
    obtain ⟨m1, m2, m3⟩ := Tier.near_law hc17
    refine c_skip ?_
    refine q_then ?_
    refine c_seq ?_
    refine c_region ?_
    refine o_pure (p_move (v := .int .i64 (Lru.runErr (⟨t.near, t.first⟩ : DCache) l)) rfl) rfl rfl rfl ?_
    refine o_pure (p_eq (p := (Lru.runErr (⟨t.near, t.first⟩ : DCache) l)) (q := 0) rfl rfl) rfl rfl rfl ?_
    refine o_pure (p_move (v := .bool ((Lru.runErr (⟨t.near, t.first⟩ : DCache) l) == 0)) rfl) rfl rfl rfl ?_
    refine o_and (p := 43) 4 (((Tier.run t l).2.1) == ((Lru.run (⟨t.near, t.first⟩ : DCache) l).2)) ?_ ?_ ?_
    · intro hb18 hk
      simp only [beq_iff_eq] at hb18
      refine o_unguard 39 rfl rfl ?_
      refine o_pure (p_move (v := .int .i64 ((Tier.run t l).2.1)) rfl) rfl rfl rfl ?_
      refine o_unguard 39 rfl rfl ?_
      refine o_pure (p_move (v := .int .i64 ((Lru.run (⟨t.near, t.first⟩ : DCache) l).2)) rfl) rfl rfl rfl ?_
      refine o_unguard 39 rfl rfl ?_
      refine o_pure (p_eq (p := ((Tier.run t l).2.1)) (q := ((Lru.run (⟨t.near, t.first⟩ : DCache) l).2)) rfl rfl) rfl rfl rfl ?_
      refine o_pure (p_pick_true (u := .bool (((Tier.run t l).2.1) == ((Lru.run (⟨t.near, t.first⟩ : DCache) l).2))) rfl rfl) rfl rfl rfl ?_
      exact o_sub (Sub.cons rfl (Sub.skip rfl (Sub.skip rfl (Sub.skip rfl (Sub.skip rfl (Sub.skip rfl (Sub.refl _))))))) hk
    · intro hb18 hk
      refine o_guard_no rfl 39 rfl rfl rfl rfl rfl ?_
      refine o_guard_no rfl 39 rfl rfl rfl rfl rfl ?_
      refine o_guard_no rfl 39 rfl rfl rfl rfl rfl ?_
      refine o_pure (p_pick_false (v := .bool false) rfl rfl) rfl rfl rfl ?_
      exact o_sub (Sub.cons rfl (Sub.skip rfl (Sub.skip rfl (Sub.skip rfl (Sub.skip rfl (Sub.skip rfl (Sub.refl _))))))) hk
    refine o_pure (p_move (v := .bool (((Lru.runErr (⟨t.near, t.first⟩ : DCache) l) == 0) && (((Tier.run t l).2.1) == ((Lru.run (⟨t.near, t.first⟩ : DCache) l).2)))) rfl) rfl rfl rfl ?_
    refine o_and (p := 50) 6 (Ref.sameInts (((Tier.run t l).1).first) (((Lru.run (⟨t.near, t.first⟩ : DCache) l).1).keys)) ?_ ?_ ?_
    · intro hb19 hk
      simp only [Bool.and_eq_true, beq_iff_eq] at hb19
      refine o_unguard 44 rfl rfl ?_
      refine o_pure (p_fieldAddr (B := B10) (j := 0) (j' := 2) rfl fo43_2 rfl) rfl rfl rfl ?_
      refine o_unguard 44 rfl rfl ?_
      refine o_pure (p_load (i := 2) (v := .slice a4 (((Tier.run t l).1).first).length c5) rfl rfl sh23 rfl) rfl rfl rfl ?_
      refine o_unguard 44 rfl rfl ?_
      refine o_pure (p_fieldAddr (B := B16) (j := 0) (j' := 1) rfl fo48_1 rfl) rfl rfl rfl ?_
      refine o_unguard 44 rfl rfl ?_
      refine o_pure (p_load (i := 0) (v := .slice a13 (((Lru.run (⟨t.near, t.first⟩ : DCache) l).1).keys).length c14) rfl rfl sh23 rfl) rfl rfl rfl ?_
      refine o_unguard 44 rfl rfl ?_
      refine o_call0 (v := .bool (Ref.sameInts (((Tier.run t l).1).first) (((Lru.run (⟨t.near, t.first⟩ : DCache) l).1).keys))) rfl (sameInts_ok (((Tier.run t l).1).first) a4 c5 (((Lru.run (⟨t.near, t.first⟩ : DCache) l).1).keys) a13 c14) hf26 (fun w hw => ⟨(rd_ent (i := 3) rfl (fun w h => h.1)) w hw, (rd_own (i := 1) rfl) w hw⟩) rfl ?_
      refine o_pure (p_pick_true (u := .bool (Ref.sameInts (((Tier.run t l).1).first) (((Lru.run (⟨t.near, t.first⟩ : DCache) l).1).keys))) rfl rfl) rfl rfl rfl ?_
      exact o_sub (Sub.cons rfl (Sub.skip rfl (Sub.skip rfl (Sub.skip rfl (Sub.skip rfl (Sub.skip rfl (Sub.skip rfl (Sub.skip rfl (Sub.refl _))))))))) hk
    · intro hb19 hk
      refine o_guard_no rfl 44 rfl rfl rfl rfl rfl ?_
      refine o_guard_no rfl 44 rfl rfl rfl rfl rfl ?_
      refine o_guard_no rfl 44 rfl rfl rfl rfl rfl ?_
      refine o_guard_no rfl 44 rfl rfl rfl rfl rfl ?_
      refine o_guard_no rfl 44 rfl rfl rfl rfl rfl ?_
      refine o_pure (p_pick_false (v := .bool false) rfl rfl) rfl rfl rfl ?_
      exact o_sub (Sub.cons rfl (Sub.skip rfl (Sub.skip rfl (Sub.skip rfl (Sub.skip rfl (Sub.skip rfl (Sub.skip rfl (Sub.skip rfl (Sub.refl _))))))))) hk
    refine o_pure (p_assign (v := .bool ((((Lru.runErr (⟨t.near, t.first⟩ : DCache) l) == 0) && (((Tier.run t l).2.1) == ((Lru.run (⟨t.near, t.first⟩ : DCache) l).2))) && (Ref.sameInts (((Tier.run t l).1).first) (((Lru.run (⟨t.near, t.first⟩ : DCache) l).1).keys)))) rfl) rfl rfl rfl ?_
    refine o_nil ?_
    refine q_then ?_
    refine c_ret ?_
    have hr0 : (((((Lru.runErr (⟨t.near, t.first⟩ : DCache) l) == 0) && (((Tier.run t l).2.1) == ((Lru.run (⟨t.near, t.first⟩ : DCache) l).2))) && (Ref.sameInts (((Tier.run t l).1).first) (((Lru.run (⟨t.near, t.first⟩ : DCache) l).1).keys))) : Bool) = true := by
      first | rfl | (rw [hz]; rfl) | (simp [m1, m2, m3, Ref.sameInts]; done)
    refine q_end0 (v := .bool ((((Lru.runErr (⟨t.near, t.first⟩ : DCache) l) == 0) && (((Tier.run t l).2.1) == ((Lru.run (⟨t.near, t.first⟩ : DCache) l).2))) && (Ref.sameInts (((Tier.run t l).1).first) (((Lru.run (⟨t.near, t.first⟩ : DCache) l).1).keys)))) (rt1 rfl (r_tmp rfl)) (i := 5) rfl ?_
    exact (by have hcc := congrArg (fun (y0 : Bool) => (.bool y0 : Value)) hr0; exact hcc)
end Go.Proofs.Ytgjdmnljnimamaa
