/- The walks, printed by a program from the translation and a specification. -/
import Derived.Test.YtgjdmnljnimamaaTiF
import Derived.Test.YtgjdmnljnimamaaTiLaw
import Derived.Test.YtgjdmnljnimamaaTiW10
namespace Go.Proofs.Ytgjdmnljnimamaa
open Go.Sx Go.RowKit
set_option maxHeartbeats 8000000 in
set_option maxRecDepth 100000 in
theorem tierSpec_ok (t : DTiers) (at_0 : Option Addr) (ct_0 : Nat) (at_1 : Option Addr) (ct_1 : Nat) (key : Int) (l : List Int) (al : Option Addr) (cl : Nat) : Fn0 Try.prog 7 [.agg #[.int .i64 t.near, .int .i64 t.far, .slice at_0 t.first.length ct_0, .slice at_1 t.rest.length ct_1], .int .i64 key, .slice al l.length cl] (fun w => Rd tInt w at_0 ct_0 t.first ∧ Rd tInt w at_1 ct_1 t.rest ∧ Rd tInt w al cl l) (.bool true) := by
  refine fn0 (nt := 180) (F0 := [(0, .agg #[.int .i64 t.near, .int .i64 t.far, .slice at_0 t.first.length ct_0, .slice at_1 t.rest.length ct_1]), (1, .int .i64 key), (2, .slice al l.length cl)]) Try.func7 rfl Try.ntmps7 rfl rfl (fun w0 hpre => ?_)
  obtain ⟨ht_0, ht_1, hl⟩ := hpre
  have hlht_0 := ht_0.2.1
  have hlht_1 := ht_1.2.1
  have hlhl := hl.2.1
  refine c_seq ?_
  refine c_region ?_
  refine o_box (v := .agg #[.int .i64 t.near, .int .i64 t.far, .slice at_0 t.first.length ct_0, .slice at_1 t.rest.length ct_1]) rfl rfl (fun B1 => ?_)
  refine o_pure (p_assign (v := .bool false) rfl) rfl rfl rfl ?_
  refine o_nil ?_
  refine q_then ?_
  refine c_seq ?_
  refine c_region ?_
  refine o_pure (p_load_agg (i := 0) (vs := [.int .i64 t.near, .int .i64 t.far, .slice at_0 t.first.length ct_0, .slice at_1 t.rest.length ct_1]) rfl rfl sh43 rfl rfl) rfl rfl rfl ?_
  refine o_pure (p_move (v := .int .i64 key) rfl) rfl rfl rfl ?_
  refine o_callM rfl (taccess_ok t at_0 ct_0 at_1 ct_1 key) hf27 (fun w hw => ⟨(rd_base (i := 1) rfl ht_0) w hw, (rd_base (i := 1) rfl ht_1) w hw⟩) rfl (fun _ _ _ _ ha hA => ⟨SlR.agree ha hA.1, SlR.agree ha hA.2⟩) ?_
  rintro ⟨a4, c5, a6, c7⟩ S2
  refine o_know (fun w hw => (hw.at (i := 0) rfl).here.1.2.1) (fun hlr8 => ?_)
  refine o_know (fun w hw => (hw.at (i := 0) rfl).here.2.2.1) (fun hlr9 => ?_)
  refine o_pure (p_move (v := .tuple #[.agg #[.int .i64 (((Tier.access t key).1).near), .int .i64 (((Tier.access t key).1).far), .slice a4 (((Tier.access t key).1).first).length c5, .slice a6 (((Tier.access t key).1).rest).length c7], .int .i64 ((Tier.access t key).2.1), .int .i64 ((Tier.access t key).2.2), .int .i64 (Tier.accessErr t key)]) rfl) rfl rfl rfl ?_
  refine o_pure (p_extract (vs := [.agg #[.int .i64 (((Tier.access t key).1).near), .int .i64 (((Tier.access t key).1).far), .slice a4 (((Tier.access t key).1).first).length c5, .slice a6 (((Tier.access t key).1).rest).length c7], .int .i64 ((Tier.access t key).2.1), .int .i64 ((Tier.access t key).2.2), .int .i64 (Tier.accessErr t key)]) (v := .agg #[.int .i64 (((Tier.access t key).1).near), .int .i64 (((Tier.access t key).1).far), .slice a4 (((Tier.access t key).1).first).length c5, .slice a6 (((Tier.access t key).1).rest).length c7]) rfl rfl) rfl rfl rfl ?_
  refine o_pure (p_extract (vs := [.agg #[.int .i64 (((Tier.access t key).1).near), .int .i64 (((Tier.access t key).1).far), .slice a4 (((Tier.access t key).1).first).length c5, .slice a6 (((Tier.access t key).1).rest).length c7], .int .i64 ((Tier.access t key).2.1), .int .i64 ((Tier.access t key).2.2), .int .i64 (Tier.accessErr t key)]) (v := .int .i64 ((Tier.access t key).2.1)) rfl rfl) rfl rfl rfl ?_
  refine o_pure (p_extract (vs := [.agg #[.int .i64 (((Tier.access t key).1).near), .int .i64 (((Tier.access t key).1).far), .slice a4 (((Tier.access t key).1).first).length c5, .slice a6 (((Tier.access t key).1).rest).length c7], .int .i64 ((Tier.access t key).2.1), .int .i64 ((Tier.access t key).2.2), .int .i64 (Tier.accessErr t key)]) (v := .int .i64 ((Tier.access t key).2.2)) rfl rfl) rfl rfl rfl ?_
  refine o_pure (p_extract (vs := [.agg #[.int .i64 (((Tier.access t key).1).near), .int .i64 (((Tier.access t key).1).far), .slice a4 (((Tier.access t key).1).first).length c5, .slice a6 (((Tier.access t key).1).rest).length c7], .int .i64 ((Tier.access t key).2.1), .int .i64 ((Tier.access t key).2.2), .int .i64 (Tier.accessErr t key)]) (v := .int .i64 (Tier.accessErr t key)) rfl rfl) rfl rfl rfl ?_
  refine o_alloc ze43 rfl (fun B10 => ?_)
  refine o_storeN (i := 0) (vs := [.int .i64 (((Tier.access t key).1).near), .int .i64 (((Tier.access t key).1).far), .slice a4 (((Tier.access t key).1).first).length c5, .slice a6 (((Tier.access t key).1).rest).length c7]) (cs' := [.int .i64 (((Tier.access t key).1).near), .int .i64 (((Tier.access t key).1).far), .slice a4 (((Tier.access t key).1).first).length c5, .slice a6 (((Tier.access t key).1).rest).length c7]) rfl rfl rfl sz43 rfl rfl rfl rfl ?_
  refine o_pure (p_assign (v := .int .i64 ((Tier.access t key).2.1)) rfl) rfl rfl rfl ?_
  refine o_pure (p_assign (v := .int .i64 ((Tier.access t key).2.2)) rfl) rfl rfl rfl ?_
  refine o_pure (p_assign (v := .int .i64 (Tier.accessErr t key)) rfl) rfl rfl rfl ?_
  refine o_nil ?_
  refine q_then ?_
  refine c_seq ?_
  refine c_region ?_
  refine o_pure (p_load_agg (i := 2) (vs := [.int .i64 t.near, .int .i64 t.far, .slice at_0 t.first.length ct_0, .slice at_1 t.rest.length ct_1]) rfl rfl sh43 rfl rfl) rfl rfl rfl ?_
  refine o_pure (p_move (v := .slice al l.length cl) rfl) rfl rfl rfl ?_
  refine o_callM rfl (trun_ok t at_0 ct_0 at_1 ct_1 l al cl) hf28 (fun w hw => ⟨(rd_base (i := 3) rfl ht_0) w hw, (rd_base (i := 3) rfl ht_1) w hw, (rd_base (i := 3) rfl hl) w hw⟩) rfl (fun _ _ _ _ ha hA => ⟨SlR.agree ha hA.1, SlR.agree ha hA.2⟩) ?_
  rintro ⟨a13, c14, a15, c16⟩ S11
  refine o_know (fun w hw => (hw.at (i := 0) rfl).here.1.2.1) (fun hlr17 => ?_)
  refine o_know (fun w hw => (hw.at (i := 0) rfl).here.2.2.1) (fun hlr18 => ?_)
  refine o_pure (p_move (v := .tuple #[.agg #[.int .i64 (((Tier.run t l).1).near), .int .i64 (((Tier.run t l).1).far), .slice a13 (((Tier.run t l).1).first).length c14, .slice a15 (((Tier.run t l).1).rest).length c16], .int .i64 ((Tier.run t l).2.1), .int .i64 ((Tier.run t l).2.2), .int .i64 (Tier.runErr t l)]) rfl) rfl rfl rfl ?_
  refine o_pure (p_extract (vs := [.agg #[.int .i64 (((Tier.run t l).1).near), .int .i64 (((Tier.run t l).1).far), .slice a13 (((Tier.run t l).1).first).length c14, .slice a15 (((Tier.run t l).1).rest).length c16], .int .i64 ((Tier.run t l).2.1), .int .i64 ((Tier.run t l).2.2), .int .i64 (Tier.runErr t l)]) (v := .agg #[.int .i64 (((Tier.run t l).1).near), .int .i64 (((Tier.run t l).1).far), .slice a13 (((Tier.run t l).1).first).length c14, .slice a15 (((Tier.run t l).1).rest).length c16]) rfl rfl) rfl rfl rfl ?_
  refine o_pure (p_extract (vs := [.agg #[.int .i64 (((Tier.run t l).1).near), .int .i64 (((Tier.run t l).1).far), .slice a13 (((Tier.run t l).1).first).length c14, .slice a15 (((Tier.run t l).1).rest).length c16], .int .i64 ((Tier.run t l).2.1), .int .i64 ((Tier.run t l).2.2), .int .i64 (Tier.runErr t l)]) (v := .int .i64 ((Tier.run t l).2.1)) rfl rfl) rfl rfl rfl ?_
  refine o_pure (p_extract (vs := [.agg #[.int .i64 (((Tier.run t l).1).near), .int .i64 (((Tier.run t l).1).far), .slice a13 (((Tier.run t l).1).first).length c14, .slice a15 (((Tier.run t l).1).rest).length c16], .int .i64 ((Tier.run t l).2.1), .int .i64 ((Tier.run t l).2.2), .int .i64 (Tier.runErr t l)]) (v := .int .i64 ((Tier.run t l).2.2)) rfl rfl) rfl rfl rfl ?_
  refine o_pure (p_extract (vs := [.agg #[.int .i64 (((Tier.run t l).1).near), .int .i64 (((Tier.run t l).1).far), .slice a13 (((Tier.run t l).1).first).length c14, .slice a15 (((Tier.run t l).1).rest).length c16], .int .i64 ((Tier.run t l).2.1), .int .i64 ((Tier.run t l).2.2), .int .i64 (Tier.runErr t l)]) (v := .int .i64 (Tier.runErr t l)) rfl rfl) rfl rfl rfl ?_
  refine o_alloc ze43 rfl (fun B19 => ?_)
  refine o_storeN (i := 0) (vs := [.int .i64 (((Tier.run t l).1).near), .int .i64 (((Tier.run t l).1).far), .slice a13 (((Tier.run t l).1).first).length c14, .slice a15 (((Tier.run t l).1).rest).length c16]) (cs' := [.int .i64 (((Tier.run t l).1).near), .int .i64 (((Tier.run t l).1).far), .slice a13 (((Tier.run t l).1).first).length c14, .slice a15 (((Tier.run t l).1).rest).length c16]) rfl rfl rfl sz43 rfl rfl rfl rfl ?_
  refine o_pure (p_assign (v := .int .i64 ((Tier.run t l).2.1)) rfl) rfl rfl rfl ?_
  refine o_pure (p_assign (v := .int .i64 ((Tier.run t l).2.2)) rfl) rfl rfl rfl ?_
  refine o_pure (p_assign (v := .int .i64 (Tier.runErr t l)) rfl) rfl rfl rfl ?_
  refine o_nil ?_
  refine q_then ?_
  refine c_seq ?_
  refine c_region ?_
  refine o_pure (p_load_agg (i := 4) (vs := [.int .i64 t.near, .int .i64 t.far, .slice at_0 t.first.length ct_0, .slice at_1 t.rest.length ct_1]) rfl rfl sh43 rfl rfl) rfl rfl rfl ?_
  refine o_callM rfl (tmerged_ok t at_0 ct_0 at_1 ct_1) hf29 (fun w hw => ⟨(rd_base (i := 5) rfl ht_0) w hw, (rd_base (i := 5) rfl ht_1) w hw⟩) rfl (fun _ _ _ _ ha hA => SlO.agree ha hA) ?_
  rintro ⟨a22, c23⟩ S20
  refine o_know (fun w hw => own_len (i := 0) (T := tInt) hw rfl) (fun hlr24 => ?_)
  refine o_pure (p_move (v := .tuple #[.agg #[.int .i64 ((Tier.merged t).room), .slice a22 ((Tier.merged t).keys).length c23], .int .i64 (Tier.check t)]) rfl) rfl rfl rfl ?_
  refine o_pure (p_extract (vs := [.agg #[.int .i64 ((Tier.merged t).room), .slice a22 ((Tier.merged t).keys).length c23], .int .i64 (Tier.check t)]) (v := .agg #[.int .i64 ((Tier.merged t).room), .slice a22 ((Tier.merged t).keys).length c23]) rfl rfl) rfl rfl rfl ?_
  refine o_pure (p_extract (vs := [.agg #[.int .i64 ((Tier.merged t).room), .slice a22 ((Tier.merged t).keys).length c23], .int .i64 (Tier.check t)]) (v := .int .i64 (Tier.check t)) rfl rfl) rfl rfl rfl ?_
  refine o_alloc ze48 rfl (fun B25 => ?_)
  refine o_storeN (i := 0) (vs := [.int .i64 ((Tier.merged t).room), .slice a22 ((Tier.merged t).keys).length c23]) (cs' := [.int .i64 ((Tier.merged t).room), .slice a22 ((Tier.merged t).keys).length c23]) rfl rfl rfl sz48 rfl rfl rfl rfl ?_
  refine o_pure (p_assign (v := .int .i64 (Tier.check t)) rfl) rfl rfl rfl ?_
  refine o_nil ?_
  refine q_then ?_
  refine c_seq ?_
  refine c_region ?_
  refine o_pure (p_load_agg (i := 6) (vs := [.int .i64 t.near, .int .i64 t.far, .slice at_0 t.first.length ct_0, .slice at_1 t.rest.length ct_1]) rfl rfl sh43 rfl rfl) rfl rfl rfl ?_
  refine o_call0 (v := .int .i64 (Tier.check t)) rfl (rtcheck_ok t at_0 ct_0 at_1 ct_1) hf30 (fun w hw => ⟨(rd_base (i := 7) rfl ht_0) w hw, (rd_base (i := 7) rfl ht_1) w hw⟩) rfl ?_
  refine o_pure (p_assign (v := .int .i64 (Tier.check t)) rfl) rfl rfl rfl ?_
  refine o_nil ?_
  refine q_then ?_
  refine c_seq ?_
  refine c_region ?_
  refine o_pure (p_move (v := .int .i64 (Tier.check t)) rfl) rfl rfl rfl ?_
  refine o_pure (p_move (v := .int .i64 (Tier.check t)) rfl) rfl rfl rfl ?_
  refine o_pure (p_assign (v := .int .i64 (Tier.check t)) rfl) rfl rfl rfl ?_
  refine o_pure (p_assign (v := .int .i64 (Tier.check t)) rfl) rfl rfl rfl ?_
  refine o_nil ?_
  refine q_then ?_
  refine c_seq ?_
  refine c_region ?_
  refine o_alloc ze43 rfl (fun B26 => ?_)
  refine o_alloc ze43 rfl (fun B27 => ?_)
  refine o_nil ?_
  refine q_then ?_
  refine c_seq ?_
  refine c_region ?_
  refine o_pure (p_assign (v := .int .i64 0) rfl) rfl rfl rfl ?_
  refine o_pure (p_assign (v := .int .i64 0) rfl) rfl rfl rfl ?_
  refine o_pure (p_assign (v := .int .i64 0) rfl) rfl rfl rfl ?_
  refine o_pure (p_assign (v := .int .i64 0) rfl) rfl rfl rfl ?_
  refine o_nil ?_
  refine q_then ?_
  refine c_seq ?_
  refine c_region ?_
  refine o_alloc ze48 rfl (fun B28 => ?_)
  refine o_nil ?_
  refine q_then ?_
  refine c_seq ?_
  refine c_seq ?_
  refine c_region ?_
  refine o_pure (p_move (v := .int .i64 (Tier.check t)) rfl) rfl rfl rfl ?_
  refine o_pure (p_eq (p := (Tier.check t)) (q := 0) rfl rfl) rfl rfl rfl ?_
  refine o_nil ?_
  refine q_then ?_
  refine c_cond (b := ((Tier.check t) == 0)) rfl (fun hc29 => ?_) (fun hc29 => ?_)
  · simp only [beq_iff_eq] at hc29
    have hck := hc29
    have hok := Tier.ok_of hck
    have hm := Tier.merged2 hck
    have hnr := hok.near
    have hfr := hok.far
    have hl1 := hok.len1
    have hl2 := hok.len2
    refine c_seq ?_
    refine c_seq ?_
    refine c_region ?_
    refine o_pure (p_move (v := .int .i64 key) rfl) rfl rfl rfl ?_
    refine o_pure (p_lt (p := key) (q := 0) rfl rfl) rfl rfl rfl ?_
    refine o_pure (p_move (v := .bool (decide (key < 0))) rfl) rfl rfl rfl ?_
    refine o_or (p := 63) 3 (decide (1048576 < key)) ?_ ?_ ?_
    · intro hb30 hk
      simp only [decide_eq_false_iff_not, Int.not_lt] at hb30
      refine o_unguard 60 rfl rfl ?_
      refine o_pure (p_move (v := .int .i64 key) rfl) rfl rfl rfl ?_
      refine o_unguard 60 rfl rfl ?_
      refine o_pure (p_gt (p := key) (q := 1048576) rfl rfl) rfl rfl rfl ?_
      refine o_pure (p_pick_false (v := .bool (decide (1048576 < key))) rfl rfl) rfl rfl rfl ?_
      exact o_sub (Sub.cons rfl (Sub.skip rfl (Sub.skip rfl (Sub.skip rfl (Sub.skip rfl (Sub.refl _)))))) hk
    · intro hb30 hk
      refine o_guard_no rfl 60 rfl rfl rfl rfl rfl ?_
      refine o_guard_no rfl 60 rfl rfl rfl rfl rfl ?_
      refine o_pure (p_pick_true (u := .bool true) rfl rfl) rfl rfl rfl ?_
      exact o_sub (Sub.cons rfl (Sub.skip rfl (Sub.skip rfl (Sub.skip rfl (Sub.skip rfl (Sub.refl _)))))) hk
    refine o_nil ?_
    refine q_then ?_
    refine c_heap (H' := [loose tInt (False) (fun _ => False) none 0 ([] : List Int), box B28 [.int .i64 0, .slice none 0 0] 48, box B27 [.int .i64 0, .int .i64 0, .slice none 0 0, .slice none 0 0] 43, box B26 [.int .i64 0, .int .i64 0, .slice none 0 0, .slice none 0 0] 43, box B25 [.int .i64 ((Tier.merged t).room), .slice a22 ((Tier.merged t).keys).length c23] 48, own tInt S20 a22 c23 ((Tier.merged t).keys), box B19 [.int .i64 (((Tier.run t l).1).near), .int .i64 (((Tier.run t l).1).far), .slice a13 (((Tier.run t l).1).first).length c14, .slice a15 (((Tier.run t l).1).rest).length c16] 43, ⟨S11, fun w => SlR tInt S11 w a13 c14 (((Tier.run t l).1).first) ∧ SlR tInt S11 w a15 c16 (((Tier.run t l).1).rest)⟩, box B10 [.int .i64 (((Tier.access t key).1).near), .int .i64 (((Tier.access t key).1).far), .slice a4 (((Tier.access t key).1).first).length c5, .slice a6 (((Tier.access t key).1).rest).length c7] 43, ⟨S2, fun w => SlR tInt S2 w a4 c5 (((Tier.access t key).1).first) ∧ SlR tInt S2 w a6 c7 (((Tier.access t key).1).rest)⟩, box B1 [.int .i64 t.near, .int .i64 t.far, .slice at_0 t.first.length ct_0, .slice at_1 t.rest.length ct_1] 43, base w0]) (fun w hw => HeapIs.looseNil tInt hw) ?_
    refine c_heap (H' := [loose tInt (False) (fun _ => False) none 0 ([] : List Int), loose tInt (False) (fun _ => False) none 0 ([] : List Int), box B28 [.int .i64 0, .slice none 0 0] 48, box B27 [.int .i64 0, .int .i64 0, .slice none 0 0, .slice none 0 0] 43, box B26 [.int .i64 0, .int .i64 0, .slice none 0 0, .slice none 0 0] 43, box B25 [.int .i64 ((Tier.merged t).room), .slice a22 ((Tier.merged t).keys).length c23] 48, own tInt S20 a22 c23 ((Tier.merged t).keys), box B19 [.int .i64 (((Tier.run t l).1).near), .int .i64 (((Tier.run t l).1).far), .slice a13 (((Tier.run t l).1).first).length c14, .slice a15 (((Tier.run t l).1).rest).length c16] 43, ⟨S11, fun w => SlR tInt S11 w a13 c14 (((Tier.run t l).1).first) ∧ SlR tInt S11 w a15 c16 (((Tier.run t l).1).rest)⟩, box B10 [.int .i64 (((Tier.access t key).1).near), .int .i64 (((Tier.access t key).1).far), .slice a4 (((Tier.access t key).1).first).length c5, .slice a6 (((Tier.access t key).1).rest).length c7] 43, ⟨S2, fun w => SlR tInt S2 w a4 c5 (((Tier.access t key).1).first) ∧ SlR tInt S2 w a6 c7 (((Tier.access t key).1).rest)⟩, box B1 [.int .i64 t.near, .int .i64 t.far, .slice at_0 t.first.length ct_0, .slice at_1 t.rest.length ct_1] 43, base w0]) (fun w hw => HeapIs.looseNil tInt hw) ?_
    refine c_join (G := Int × Int × Int × DTiers × Option Addr × Nat × (Nat → Prop) × Option Addr × Nat × (Nat → Prop))
      (fun ⟨v, wh, less, tc, atc_0, ctc_0, Stc_0, atc_1, ctc_1, Stc_1⟩ => [(2, .slice al l.length cl), (3, .pointer (some ⟨B1, 0, none⟩)), (7, .pointer (some ⟨B10, 0, none⟩)), (8, .int .i64 ((Tier.access t key).2.1)), (9, .int .i64 ((Tier.access t key).2.2)), (10, .int .i64 (Tier.accessErr t key)), (11, .pointer (some ⟨B19, 0, none⟩)), (12, .int .i64 ((Tier.run t l).2.1)), (13, .int .i64 ((Tier.run t l).2.2)), (14, .int .i64 (Tier.runErr t l)), (15, .pointer (some ⟨B25, 0, none⟩)), (16, .int .i64 (Tier.check t)), (17, .int .i64 (Tier.check t)), (18, .int .i64 v), (20, .pointer (some ⟨B26, 0, none⟩)), (21, .pointer (some ⟨B27, 0, none⟩)), (22, .int .i64 wh), (23, .int .i64 less), (24, .int .i64 0), (25, .int .i64 0), (26, .pointer (some ⟨B28, 0, none⟩))])
      (fun ⟨v, wh, less, tc, atc_0, ctc_0, Stc_0, atc_1, ctc_1, Stc_1⟩ => [loose tInt (False) Stc_1 atc_1 ctc_1 tc.rest, loose tInt (False) Stc_0 atc_0 ctc_0 tc.first, box B28 [.int .i64 0, .slice none 0 0] 48, box B27 [.int .i64 0, .int .i64 0, .slice none 0 0, .slice none 0 0] 43, box B26 [.int .i64 tc.near, .int .i64 tc.far, .slice atc_0 tc.first.length ctc_0, .slice atc_1 tc.rest.length ctc_1] 43, box B25 [.int .i64 ((Tier.merged t).room), .slice a22 ((Tier.merged t).keys).length c23] 48, own tInt S20 a22 c23 ((Tier.merged t).keys), box B19 [.int .i64 (((Tier.run t l).1).near), .int .i64 (((Tier.run t l).1).far), .slice a13 (((Tier.run t l).1).first).length c14, .slice a15 (((Tier.run t l).1).rest).length c16] 43, ⟨S11, fun w => SlR tInt S11 w a13 c14 (((Tier.run t l).1).first) ∧ SlR tInt S11 w a15 c16 (((Tier.run t l).1).rest)⟩, box B10 [.int .i64 (((Tier.access t key).1).near), .int .i64 (((Tier.access t key).1).far), .slice a4 (((Tier.access t key).1).first).length c5, .slice a6 (((Tier.access t key).1).rest).length c7] 43, ⟨S2, fun w => SlR tInt S2 w a4 c5 (((Tier.access t key).1).first) ∧ SlR tInt S2 w a6 c7 (((Tier.access t key).1).rest)⟩, box B1 [.int .i64 t.near, .int .i64 t.far, .slice at_0 t.first.length ct_0, .slice at_1 t.rest.length ct_1] 43, base w0])
      (fun ⟨v, wh, less, tc, atc_0, ctc_0, Stc_0, atc_1, ctc_1, Stc_1⟩ => v = Tier.accessErr t key ∧ tc = (Tier.access t key).1 ∧ wh = (Tier.access t key).2.1 ∧ less = (Tier.access t key).2.2)
      (fun K hK33 => ?_) ?_
    · refine c_cond (b := (decide (key < 0) || decide (1048576 < key))) rfl (fun hc34 => ?_) (fun hc34 => ?_)
      · simp only [Bool.or_eq_true, decide_eq_true_eq] at hc34
        have hkb : Lru.okKey key = false := by simp only [Lru.okKey]; rcases hc34 with h | h <;> simp <;> omega
        obtain ⟨a1, a2⟩ := Tier.acc2 (key := key) hck hkb
        refine c_region ?_
        refine o_pure (p_assign (v := .int .i64 3) rfl) rfl rfl rfl ?_
        refine o_nil ?_
        refine q_heap (H' := [loose tInt (False) (fun _ => False) none 0 ([] : List Int), loose tInt (False) (fun _ => False) none 0 ([] : List Int), loose tInt (False) (fun _ => False) none 0 ([] : List Int), box B28 [.int .i64 0, .slice none 0 0] 48, box B27 [.int .i64 0, .int .i64 0, .slice none 0 0, .slice none 0 0] 43, box B26 [.int .i64 0, .int .i64 0, .slice none 0 0, .slice none 0 0] 43, box B25 [.int .i64 ((Tier.merged t).room), .slice a22 ((Tier.merged t).keys).length c23] 48, own tInt S20 a22 c23 ((Tier.merged t).keys), box B19 [.int .i64 (((Tier.run t l).1).near), .int .i64 (((Tier.run t l).1).far), .slice a13 (((Tier.run t l).1).first).length c14, .slice a15 (((Tier.run t l).1).rest).length c16] 43, ⟨S11, fun w => SlR tInt S11 w a13 c14 (((Tier.run t l).1).first) ∧ SlR tInt S11 w a15 c16 (((Tier.run t l).1).rest)⟩, box B10 [.int .i64 (((Tier.access t key).1).near), .int .i64 (((Tier.access t key).1).far), .slice a4 (((Tier.access t key).1).first).length c5, .slice a6 (((Tier.access t key).1).rest).length c7] 43, ⟨S2, fun w => SlR tInt S2 w a4 c5 (((Tier.access t key).1).first) ∧ SlR tInt S2 w a6 c7 (((Tier.access t key).1).rest)⟩, box B1 [.int .i64 t.near, .int .i64 t.far, .slice at_0 t.first.length ct_0, .slice at_1 t.rest.length ct_1] 43, base w0]) (fun w hw => HeapIs.looseNil tInt hw) ?_
        refine q_heap (H' := [loose tInt (False) (fun _ => False) none 0 ([] : List Int), loose tInt (False) (fun _ => False) none 0 ([] : List Int), loose tInt (False) (fun _ => False) none 0 ([] : List Int), loose tInt (False) (fun _ => False) none 0 ([] : List Int), box B28 [.int .i64 0, .slice none 0 0] 48, box B27 [.int .i64 0, .int .i64 0, .slice none 0 0, .slice none 0 0] 43, box B26 [.int .i64 0, .int .i64 0, .slice none ([] : List Int).length 0, .slice none 0 0] 43, box B25 [.int .i64 ((Tier.merged t).room), .slice a22 ((Tier.merged t).keys).length c23] 48, own tInt S20 a22 c23 ((Tier.merged t).keys), box B19 [.int .i64 (((Tier.run t l).1).near), .int .i64 (((Tier.run t l).1).far), .slice a13 (((Tier.run t l).1).first).length c14, .slice a15 (((Tier.run t l).1).rest).length c16] 43, ⟨S11, fun w => SlR tInt S11 w a13 c14 (((Tier.run t l).1).first) ∧ SlR tInt S11 w a15 c16 (((Tier.run t l).1).rest)⟩, box B10 [.int .i64 (((Tier.access t key).1).near), .int .i64 (((Tier.access t key).1).far), .slice a4 (((Tier.access t key).1).first).length c5, .slice a6 (((Tier.access t key).1).rest).length c7] 43, ⟨S2, fun w => SlR tInt S2 w a4 c5 (((Tier.access t key).1).first) ∧ SlR tInt S2 w a6 c7 (((Tier.access t key).1).rest)⟩, box B1 [.int .i64 t.near, .int .i64 t.far, .slice at_0 t.first.length ct_0, .slice at_1 t.rest.length ct_1] 43, base w0]) (fun w hw => HeapIs.looseNil tInt hw) ?_
        refine q_join hK33 (3, 0, 0, (⟨0, 0, ([] : List Int), ([] : List Int)⟩ : DTiers), none, 0, (fun _ => False), none, 0, (fun _ => False)) ?_ (Sub.cons rfl (Sub.cons rfl (Sub.cons rfl (Sub.cons rfl (Sub.cons rfl (Sub.cons rfl (Sub.cons rfl (Sub.cons rfl (Sub.cons rfl (Sub.cons rfl (Sub.cons rfl (Sub.cons rfl (Sub.cons rfl (Sub.cons rfl (Sub.cons rfl (Sub.cons rfl (Sub.cons rfl (Sub.cons rfl (Sub.cons rfl (Sub.cons rfl (Sub.cons rfl (Sub.nil _)))))))))))))))))))))) (fun _ hw => HeapIs.pick hw [0, 1, 4, 5, 6, 7, 8, 9, 10, 11, 12, 13, 14] (by decide) rfl)
        clear hK33
        rw [a1, a2]
        first | exact ⟨rfl, rfl, rfl, rfl⟩ | exact ⟨hck, rfl, rfl, rfl⟩
      · simp only [Bool.or_eq_false_iff, decide_eq_false_iff_not, Int.not_lt] at hc34
        have hkey : Lru.okKey key = true := by simp only [Lru.okKey, Bool.and_eq_true, decide_eq_true_eq]; omega
        obtain ⟨a1, a2⟩ := Tier.acc3 (key := key) hck hkey
        refine c_region ?_
        refine o_pure (p_load_agg (i := 11) (vs := [.int .i64 t.near, .int .i64 t.far, .slice at_0 t.first.length ct_0, .slice at_1 t.rest.length ct_1]) rfl rfl sh43 rfl rfl) rfl rfl rfl ?_
        refine o_pure (p_move (v := .int .i64 key) rfl) rfl rfl rfl ?_
        refine o_callX (pre := []) (R := [loose tInt (False) (fun _ => False) none 0 ([] : List Int), loose tInt (False) (fun _ => False) none 0 ([] : List Int), box B28 [.int .i64 0, .slice none 0 0] 48, box B27 [.int .i64 0, .int .i64 0, .slice none 0 0, .slice none 0 0] 43, box B26 [.int .i64 0, .int .i64 0, .slice none 0 0, .slice none 0 0] 43, box B25 [.int .i64 ((Tier.merged t).room), .slice a22 ((Tier.merged t).keys).length c23] 48, own tInt S20 a22 c23 ((Tier.merged t).keys), box B19 [.int .i64 (((Tier.run t l).1).near), .int .i64 (((Tier.run t l).1).far), .slice a13 (((Tier.run t l).1).first).length c14, .slice a15 (((Tier.run t l).1).rest).length c16] 43, ⟨S11, fun w => SlR tInt S11 w a13 c14 (((Tier.run t l).1).first) ∧ SlR tInt S11 w a15 c16 (((Tier.run t l).1).rest)⟩, box B10 [.int .i64 (((Tier.access t key).1).near), .int .i64 (((Tier.access t key).1).far), .slice a4 (((Tier.access t key).1).first).length c5, .slice a6 (((Tier.access t key).1).rest).length c7] 43, ⟨S2, fun w => SlR tInt S2 w a4 c5 (((Tier.access t key).1).first) ∧ SlR tInt S2 w a6 c7 (((Tier.access t key).1).rest)⟩, box B1 [.int .i64 t.near, .int .i64 t.far, .slice at_0 t.first.length ct_0, .slice at_1 t.rest.length ct_1] 43, base w0]) rfl (rttouch_ok t at_0 ct_0 at_1 ct_1 key (by first | assumption | exact ⟨hok, hkey⟩ | exact ⟨hI.ok, hI.keys _ (List.getElem_mem (by omega))⟩)) hf31 rfl (fun w hw => ⟨(rdX (i := 12) (js := []) rfl (by decide) rfl (fun _ hA => slR_base ht_0 hA)) w hw, (rdX (i := 12) (js := []) rfl (by decide) rfl (fun _ hA => slR_base ht_1 hA)) w hw⟩) rfl ?_
        rintro ⟨a37, c38, S39, a40, c41, S42⟩
        refine o_asH (H' := [own tInt S39 a37 c38 (((Tier.touch t key).1).first), own tInt S42 a40 c41 (((Tier.touch t key).1).rest), loose tInt (False) (fun _ => False) none 0 ([] : List Int), loose tInt (False) (fun _ => False) none 0 ([] : List Int), box B28 [.int .i64 0, .slice none 0 0] 48, box B27 [.int .i64 0, .int .i64 0, .slice none 0 0, .slice none 0 0] 43, box B26 [.int .i64 0, .int .i64 0, .slice none 0 0, .slice none 0 0] 43, box B25 [.int .i64 ((Tier.merged t).room), .slice a22 ((Tier.merged t).keys).length c23] 48, own tInt S20 a22 c23 ((Tier.merged t).keys), box B19 [.int .i64 (((Tier.run t l).1).near), .int .i64 (((Tier.run t l).1).far), .slice a13 (((Tier.run t l).1).first).length c14, .slice a15 (((Tier.run t l).1).rest).length c16] 43, ⟨S11, fun w => SlR tInt S11 w a13 c14 (((Tier.run t l).1).first) ∧ SlR tInt S11 w a15 c16 (((Tier.run t l).1).rest)⟩, box B10 [.int .i64 (((Tier.access t key).1).near), .int .i64 (((Tier.access t key).1).far), .slice a4 (((Tier.access t key).1).first).length c5, .slice a6 (((Tier.access t key).1).rest).length c7] 43, ⟨S2, fun w => SlR tInt S2 w a4 c5 (((Tier.access t key).1).first) ∧ SlR tInt S2 w a6 c7 (((Tier.access t key).1).rest)⟩, box B1 [.int .i64 t.near, .int .i64 t.far, .slice at_0 t.first.length ct_0, .slice at_1 t.rest.length ct_1] 43, base w0]) rfl ?_
        refine o_pure (p_move (v := .tuple #[.agg #[.int .i64 (((Tier.touch t key).1).near), .int .i64 (((Tier.touch t key).1).far), .slice a37 (((Tier.touch t key).1).first).length c38, .slice a40 (((Tier.touch t key).1).rest).length c41], .int .i64 (Tier.place t key), .int .i64 (Tier.gone t key)]) rfl) rfl rfl rfl ?_
        refine o_pure (p_extract (vs := [.agg #[.int .i64 (((Tier.touch t key).1).near), .int .i64 (((Tier.touch t key).1).far), .slice a37 (((Tier.touch t key).1).first).length c38, .slice a40 (((Tier.touch t key).1).rest).length c41], .int .i64 (Tier.place t key), .int .i64 (Tier.gone t key)]) (v := .agg #[.int .i64 (((Tier.touch t key).1).near), .int .i64 (((Tier.touch t key).1).far), .slice a37 (((Tier.touch t key).1).first).length c38, .slice a40 (((Tier.touch t key).1).rest).length c41]) rfl rfl) rfl rfl rfl ?_
        refine o_pure (p_extract (vs := [.agg #[.int .i64 (((Tier.touch t key).1).near), .int .i64 (((Tier.touch t key).1).far), .slice a37 (((Tier.touch t key).1).first).length c38, .slice a40 (((Tier.touch t key).1).rest).length c41], .int .i64 (Tier.place t key), .int .i64 (Tier.gone t key)]) (v := .int .i64 (Tier.place t key)) rfl rfl) rfl rfl rfl ?_
        refine o_pure (p_extract (vs := [.agg #[.int .i64 (((Tier.touch t key).1).near), .int .i64 (((Tier.touch t key).1).far), .slice a37 (((Tier.touch t key).1).first).length c38, .slice a40 (((Tier.touch t key).1).rest).length c41], .int .i64 (Tier.place t key), .int .i64 (Tier.gone t key)]) (v := .int .i64 (Tier.gone t key)) rfl rfl) rfl rfl rfl ?_
        refine o_storeN (i := 6) (vs := [.int .i64 (((Tier.touch t key).1).near), .int .i64 (((Tier.touch t key).1).far), .slice a37 (((Tier.touch t key).1).first).length c38, .slice a40 (((Tier.touch t key).1).rest).length c41]) (cs' := [.int .i64 (((Tier.touch t key).1).near), .int .i64 (((Tier.touch t key).1).far), .slice a37 (((Tier.touch t key).1).first).length c38, .slice a40 (((Tier.touch t key).1).rest).length c41]) rfl rfl rfl sz43 rfl rfl rfl rfl ?_
        refine o_pure (p_assign (v := .int .i64 (Tier.place t key)) rfl) rfl rfl rfl ?_
        refine o_pure (p_assign (v := .int .i64 (Tier.gone t key)) rfl) rfl rfl rfl ?_
        refine o_nil ?_
        refine q_heap (H' := [loose tInt (False) S39 a37 c38 (((Tier.touch t key).1).first), own tInt S42 a40 c41 (((Tier.touch t key).1).rest), loose tInt (False) (fun _ => False) none 0 ([] : List Int), loose tInt (False) (fun _ => False) none 0 ([] : List Int), box B28 [.int .i64 0, .slice none 0 0] 48, box B27 [.int .i64 0, .int .i64 0, .slice none 0 0, .slice none 0 0] 43, box B26 [.int .i64 (((Tier.touch t key).1).near), .int .i64 (((Tier.touch t key).1).far), .slice a37 (((Tier.touch t key).1).first).length c38, .slice a40 (((Tier.touch t key).1).rest).length c41] 43, box B25 [.int .i64 ((Tier.merged t).room), .slice a22 ((Tier.merged t).keys).length c23] 48, own tInt S20 a22 c23 ((Tier.merged t).keys), box B19 [.int .i64 (((Tier.run t l).1).near), .int .i64 (((Tier.run t l).1).far), .slice a13 (((Tier.run t l).1).first).length c14, .slice a15 (((Tier.run t l).1).rest).length c16] 43, ⟨S11, fun w => SlR tInt S11 w a13 c14 (((Tier.run t l).1).first) ∧ SlR tInt S11 w a15 c16 (((Tier.run t l).1).rest)⟩, box B10 [.int .i64 (((Tier.access t key).1).near), .int .i64 (((Tier.access t key).1).far), .slice a4 (((Tier.access t key).1).first).length c5, .slice a6 (((Tier.access t key).1).rest).length c7] 43, ⟨S2, fun w => SlR tInt S2 w a4 c5 (((Tier.access t key).1).first) ∧ SlR tInt S2 w a6 c7 (((Tier.access t key).1).rest)⟩, box B1 [.int .i64 t.near, .int .i64 t.far, .slice at_0 t.first.length ct_0, .slice at_1 t.rest.length ct_1] 43, base w0]) (fun w hw => HeapIs.toLoose (i := 0) (T := tInt) rfl hw) ?_
        refine q_heap (H' := [loose tInt (False) S39 a37 c38 (((Tier.touch t key).1).first), loose tInt (False) S42 a40 c41 (((Tier.touch t key).1).rest), loose tInt (False) (fun _ => False) none 0 ([] : List Int), loose tInt (False) (fun _ => False) none 0 ([] : List Int), box B28 [.int .i64 0, .slice none 0 0] 48, box B27 [.int .i64 0, .int .i64 0, .slice none 0 0, .slice none 0 0] 43, box B26 [.int .i64 (((Tier.touch t key).1).near), .int .i64 (((Tier.touch t key).1).far), .slice a37 (((Tier.touch t key).1).first).length c38, .slice a40 (((Tier.touch t key).1).rest).length c41] 43, box B25 [.int .i64 ((Tier.merged t).room), .slice a22 ((Tier.merged t).keys).length c23] 48, own tInt S20 a22 c23 ((Tier.merged t).keys), box B19 [.int .i64 (((Tier.run t l).1).near), .int .i64 (((Tier.run t l).1).far), .slice a13 (((Tier.run t l).1).first).length c14, .slice a15 (((Tier.run t l).1).rest).length c16] 43, ⟨S11, fun w => SlR tInt S11 w a13 c14 (((Tier.run t l).1).first) ∧ SlR tInt S11 w a15 c16 (((Tier.run t l).1).rest)⟩, box B10 [.int .i64 (((Tier.access t key).1).near), .int .i64 (((Tier.access t key).1).far), .slice a4 (((Tier.access t key).1).first).length c5, .slice a6 (((Tier.access t key).1).rest).length c7] 43, ⟨S2, fun w => SlR tInt S2 w a4 c5 (((Tier.access t key).1).first) ∧ SlR tInt S2 w a6 c7 (((Tier.access t key).1).rest)⟩, box B1 [.int .i64 t.near, .int .i64 t.far, .slice at_0 t.first.length ct_0, .slice at_1 t.rest.length ct_1] 43, base w0]) (fun w hw => HeapIs.toLoose (i := 1) (T := tInt) rfl hw) ?_
        refine q_join hK33 ((Tier.check t), (Tier.place t key), (Tier.gone t key), ((Tier.touch t key).1), a37, c38, S39, a40, c41, S42) ?_ (Sub.cons rfl (Sub.cons rfl (Sub.cons rfl (Sub.cons rfl (Sub.cons rfl (Sub.cons rfl (Sub.cons rfl (Sub.cons rfl (Sub.cons rfl (Sub.cons rfl (Sub.cons rfl (Sub.cons rfl (Sub.cons rfl (Sub.cons rfl (Sub.cons rfl (Sub.cons rfl (Sub.cons rfl (Sub.cons rfl (Sub.cons rfl (Sub.cons rfl (Sub.cons rfl (Sub.nil _)))))))))))))))))))))) (fun _ hw => HeapIs.pick hw [1, 0, 4, 5, 6, 7, 8, 9, 10, 11, 12, 13, 14] (by decide) rfl)
        clear hK33
        rw [a1, a2]
        first | exact ⟨rfl, rfl, rfl, rfl⟩ | exact ⟨hck, rfl, rfl, rfl⟩
    rintro ⟨v, wh, less, tc, atc_0, ctc_0, Stc_0, atc_1, ctc_1, Stc_1⟩ hj1
    show SQ _ 180 w0 _ _ [(2, .slice al l.length cl), (3, .pointer (some ⟨B1, 0, none⟩)), (7, .pointer (some ⟨B10, 0, none⟩)), (8, .int .i64 ((Tier.access t key).2.1)), (9, .int .i64 ((Tier.access t key).2.2)), (10, .int .i64 (Tier.accessErr t key)), (11, .pointer (some ⟨B19, 0, none⟩)), (12, .int .i64 ((Tier.run t l).2.1)), (13, .int .i64 ((Tier.run t l).2.2)), (14, .int .i64 (Tier.runErr t l)), (15, .pointer (some ⟨B25, 0, none⟩)), (16, .int .i64 (Tier.check t)), (17, .int .i64 (Tier.check t)), (18, .int .i64 v), (20, .pointer (some ⟨B26, 0, none⟩)), (21, .pointer (some ⟨B27, 0, none⟩)), (22, .int .i64 wh), (23, .int .i64 less), (24, .int .i64 0), (25, .int .i64 0), (26, .pointer (some ⟨B28, 0, none⟩))] [loose tInt (False) Stc_1 atc_1 ctc_1 tc.rest, loose tInt (False) Stc_0 atc_0 ctc_0 tc.first, box B28 [.int .i64 0, .slice none 0 0] 48, box B27 [.int .i64 0, .int .i64 0, .slice none 0 0, .slice none 0 0] 43, box B26 [.int .i64 tc.near, .int .i64 tc.far, .slice atc_0 tc.first.length ctc_0, .slice atc_1 tc.rest.length ctc_1] 43, box B25 [.int .i64 ((Tier.merged t).room), .slice a22 ((Tier.merged t).keys).length c23] 48, own tInt S20 a22 c23 ((Tier.merged t).keys), box B19 [.int .i64 (((Tier.run t l).1).near), .int .i64 (((Tier.run t l).1).far), .slice a13 (((Tier.run t l).1).first).length c14, .slice a15 (((Tier.run t l).1).rest).length c16] 43, ⟨S11, fun w => SlR tInt S11 w a13 c14 (((Tier.run t l).1).first) ∧ SlR tInt S11 w a15 c16 (((Tier.run t l).1).rest)⟩, box B10 [.int .i64 (((Tier.access t key).1).near), .int .i64 (((Tier.access t key).1).far), .slice a4 (((Tier.access t key).1).first).length c5, .slice a6 (((Tier.access t key).1).rest).length c7] 43, ⟨S2, fun w => SlR tInt S2 w a4 c5 (((Tier.access t key).1).first) ∧ SlR tInt S2 w a6 c7 (((Tier.access t key).1).rest)⟩, box B1 [.int .i64 t.near, .int .i64 t.far, .slice at_0 t.first.length ct_0, .slice at_1 t.rest.length ct_1] 43, base w0]
    refine q_then ?_
    refine c_seq ?_
    refine c_seq ?_
    refine c_region ?_
    refine o_pure (p_move (v := .slice al l.length cl) rfl) rfl rfl rfl ?_
    refine o_call0 (v := .int .i64 (Lru.trace l)) rfl (traceCheck_ok l al cl) hf32 (fun w hw => (rd_base (i := 12) rfl hl) w hw) rfl ?_
    refine o_pure (p_assign (v := .int .i64 (Lru.trace l)) rfl) rfl rfl rfl ?_
    refine o_nil ?_
    refine q_then ?_
    refine c_seq ?_
    refine c_region ?_
    refine o_pure (p_move (v := .int .i64 (Lru.trace l)) rfl) rfl rfl rfl ?_
    refine o_pure (p_eq (p := (Lru.trace l)) (q := 0) rfl rfl) rfl rfl rfl ?_
    refine o_nil ?_
    refine q_then ?_
    refine c_cond (b := ((Lru.trace l) == 0)) rfl (fun hc45 => ?_) (fun hc45 => ?_)
    · simp only [beq_iff_eq] at hc45
      have hkeys := (Lru.trace_ok.1 hc45).2
      have htr := hc45
      obtain ⟨b1, b2⟩ := Tier.run3 hck hc45
      refine c_seq ?_
      refine c_region ?_
      refine o_pure (p_load_agg (i := 11) (vs := [.int .i64 t.near, .int .i64 t.far, .slice at_0 t.first.length ct_0, .slice at_1 t.rest.length ct_1]) rfl rfl sh43 rfl rfl) rfl rfl rfl ?_
      refine o_storeN (i := 3) (vs := [.int .i64 t.near, .int .i64 t.far, .slice at_0 t.first.length ct_0, .slice at_1 t.rest.length ct_1]) (cs' := [.int .i64 t.near, .int .i64 t.far, .slice at_0 t.first.length ct_0, .slice at_1 t.rest.length ct_1]) rfl rfl rfl sz43 rfl rfl rfl rfl ?_
      refine o_nil ?_
      refine q_then ?_
      refine c_seq ?_
      refine c_region ?_
      refine o_pure (p_assign (v := .int .i64 0) rfl) rfl rfl rfl ?_
      refine o_nil ?_
      refine q_then ?_
      refine c_block ?_
      refine c_heap (H' := [loose tInt (at_0 = at_0 ∧ ct_0 = ct_0 ∧ t.first = t.first) (fun _ => False) at_0 ct_0 t.first, loose tInt (False) Stc_1 atc_1 ctc_1 tc.rest, loose tInt (False) Stc_0 atc_0 ctc_0 tc.first, box B28 [.int .i64 0, .slice none 0 0] 48, box B27 [.int .i64 t.near, .int .i64 t.far, .slice at_0 t.first.length ct_0, .slice at_1 t.rest.length ct_1] 43, box B26 [.int .i64 tc.near, .int .i64 tc.far, .slice atc_0 tc.first.length ctc_0, .slice atc_1 tc.rest.length ctc_1] 43, box B25 [.int .i64 ((Tier.merged t).room), .slice a22 ((Tier.merged t).keys).length c23] 48, own tInt S20 a22 c23 ((Tier.merged t).keys), box B19 [.int .i64 (((Tier.run t l).1).near), .int .i64 (((Tier.run t l).1).far), .slice a13 (((Tier.run t l).1).first).length c14, .slice a15 (((Tier.run t l).1).rest).length c16] 43, ⟨S11, fun w => SlR tInt S11 w a13 c14 (((Tier.run t l).1).first) ∧ SlR tInt S11 w a15 c16 (((Tier.run t l).1).rest)⟩, box B10 [.int .i64 (((Tier.access t key).1).near), .int .i64 (((Tier.access t key).1).far), .slice a4 (((Tier.access t key).1).first).length c5, .slice a6 (((Tier.access t key).1).rest).length c7] 43, ⟨S2, fun w => SlR tInt S2 w a4 c5 (((Tier.access t key).1).first) ∧ SlR tInt S2 w a6 c7 (((Tier.access t key).1).rest)⟩, box B1 [.int .i64 t.near, .int .i64 t.far, .slice at_0 t.first.length ct_0, .slice at_1 t.rest.length ct_1] 43, base w0]) (fun w hw => HeapIs.looseOf ⟨rfl, rfl, rfl⟩ hw) ?_
      refine c_heap (H' := [loose tInt (at_1 = at_1 ∧ ct_1 = ct_1 ∧ t.rest = t.rest) (fun _ => False) at_1 ct_1 t.rest, loose tInt (at_0 = at_0 ∧ ct_0 = ct_0 ∧ t.first = t.first) (fun _ => False) at_0 ct_0 t.first, loose tInt (False) Stc_1 atc_1 ctc_1 tc.rest, loose tInt (False) Stc_0 atc_0 ctc_0 tc.first, box B28 [.int .i64 0, .slice none 0 0] 48, box B27 [.int .i64 t.near, .int .i64 t.far, .slice at_0 t.first.length ct_0, .slice at_1 t.rest.length ct_1] 43, box B26 [.int .i64 tc.near, .int .i64 tc.far, .slice atc_0 tc.first.length ctc_0, .slice atc_1 tc.rest.length ctc_1] 43, box B25 [.int .i64 ((Tier.merged t).room), .slice a22 ((Tier.merged t).keys).length c23] 48, own tInt S20 a22 c23 ((Tier.merged t).keys), box B19 [.int .i64 (((Tier.run t l).1).near), .int .i64 (((Tier.run t l).1).far), .slice a13 (((Tier.run t l).1).first).length c14, .slice a15 (((Tier.run t l).1).rest).length c16] 43, ⟨S11, fun w => SlR tInt S11 w a13 c14 (((Tier.run t l).1).first) ∧ SlR tInt S11 w a15 c16 (((Tier.run t l).1).rest)⟩, box B10 [.int .i64 (((Tier.access t key).1).near), .int .i64 (((Tier.access t key).1).far), .slice a4 (((Tier.access t key).1).first).length c5, .slice a6 (((Tier.access t key).1).rest).length c7] 43, ⟨S2, fun w => SlR tInt S2 w a4 c5 (((Tier.access t key).1).first) ∧ SlR tInt S2 w a6 c7 (((Tier.access t key).1).rest)⟩, box B1 [.int .i64 t.near, .int .i64 t.far, .slice at_0 t.first.length ct_0, .slice at_1 t.rest.length ct_1] 43, base w0]) (fun w hw => HeapIs.looseOf ⟨rfl, rfl, rfl⟩ hw) ?_
      refine c_loop (St := Int × Int × Nat × DTiers × Option Addr × Nat × (Nat → Prop) × Option Addr × Nat × (Nat → Prop))
        (fun ⟨one, two, i, rr, arr_0, crr_0, Srr_0, arr_1, crr_1, Srr_1⟩ => [(2, .slice al l.length cl), (3, .pointer (some ⟨B1, 0, none⟩)), (7, .pointer (some ⟨B10, 0, none⟩)), (8, .int .i64 ((Tier.access t key).2.1)), (9, .int .i64 ((Tier.access t key).2.2)), (10, .int .i64 (Tier.accessErr t key)), (11, .pointer (some ⟨B19, 0, none⟩)), (12, .int .i64 ((Tier.run t l).2.1)), (13, .int .i64 ((Tier.run t l).2.2)), (14, .int .i64 (Tier.runErr t l)), (15, .pointer (some ⟨B25, 0, none⟩)), (16, .int .i64 (Tier.check t)), (17, .int .i64 (Tier.check t)), (18, .int .i64 v), (19, .int .i64 (Lru.trace l)), (20, .pointer (some ⟨B26, 0, none⟩)), (21, .pointer (some ⟨B27, 0, none⟩)), (22, .int .i64 wh), (23, .int .i64 less), (24, .int .i64 one), (25, .int .i64 two), (26, .pointer (some ⟨B28, 0, none⟩)), (27, .int .i64 (i : Int))])
        (fun ⟨one, two, i, rr, arr_0, crr_0, Srr_0, arr_1, crr_1, Srr_1⟩ => [loose tInt (arr_1 = at_1 ∧ crr_1 = ct_1 ∧ rr.rest = t.rest) Srr_1 arr_1 crr_1 rr.rest, loose tInt (arr_0 = at_0 ∧ crr_0 = ct_0 ∧ rr.first = t.first) Srr_0 arr_0 crr_0 rr.first, loose tInt (False) Stc_1 atc_1 ctc_1 tc.rest, loose tInt (False) Stc_0 atc_0 ctc_0 tc.first, box B28 [.int .i64 0, .slice none 0 0] 48, box B27 [.int .i64 rr.near, .int .i64 rr.far, .slice arr_0 rr.first.length crr_0, .slice arr_1 rr.rest.length crr_1] 43, box B26 [.int .i64 tc.near, .int .i64 tc.far, .slice atc_0 tc.first.length ctc_0, .slice atc_1 tc.rest.length ctc_1] 43, box B25 [.int .i64 ((Tier.merged t).room), .slice a22 ((Tier.merged t).keys).length c23] 48, own tInt S20 a22 c23 ((Tier.merged t).keys), box B19 [.int .i64 (((Tier.run t l).1).near), .int .i64 (((Tier.run t l).1).far), .slice a13 (((Tier.run t l).1).first).length c14, .slice a15 (((Tier.run t l).1).rest).length c16] 43, ⟨S11, fun w => SlR tInt S11 w a13 c14 (((Tier.run t l).1).first) ∧ SlR tInt S11 w a15 c16 (((Tier.run t l).1).rest)⟩, box B10 [.int .i64 (((Tier.access t key).1).near), .int .i64 (((Tier.access t key).1).far), .slice a4 (((Tier.access t key).1).first).length c5, .slice a6 (((Tier.access t key).1).rest).length c7] 43, ⟨S2, fun w => SlR tInt S2 w a4 c5 (((Tier.access t key).1).first) ∧ SlR tInt S2 w a6 c7 (((Tier.access t key).1).rest)⟩, box B1 [.int .i64 t.near, .int .i64 t.far, .slice at_0 t.first.length ct_0, .slice at_1 t.rest.length ct_1] 43, base w0])
        (fun ⟨one, two, i, rr, arr_0, crr_0, Srr_0, arr_1, crr_1, Srr_1⟩ => Tier.RInv t rr l one two i)
        (fun ⟨one, two, i, rr, arr_0, crr_0, Srr_0, arr_1, crr_1, Srr_1⟩ => l.length - i)
        (0, 0, 0, t, at_0, ct_0, (fun _ => False), at_1, ct_1, (fun _ => False)) ?_ (Sub.cons rfl (Sub.cons rfl (Sub.cons rfl (Sub.cons rfl (Sub.cons rfl (Sub.cons rfl (Sub.cons rfl (Sub.cons rfl (Sub.cons rfl (Sub.cons rfl (Sub.cons rfl (Sub.cons rfl (Sub.cons rfl (Sub.cons rfl (Sub.cons rfl (Sub.cons rfl (Sub.cons rfl (Sub.cons rfl (Sub.cons rfl (Sub.cons rfl (Sub.cons rfl (Sub.cons rfl (Sub.cons rfl (Sub.nil _)))))))))))))))))))))))) (fun _ hw => hw) ?_
      · exact Tier.RInv.start hok hkeys
      rintro ⟨one, two, i, rr, arr_0, crr_0, Srr_0, arr_1, crr_1, Srr_1⟩ hI K hK48
      have hn0 := hI.n0
      have hm0 := hI.m0
      have hle := hI.le
      show SC _ _ Try.prog 180 w0 _ _ [(2, .slice al l.length cl), (3, .pointer (some ⟨B1, 0, none⟩)), (7, .pointer (some ⟨B10, 0, none⟩)), (8, .int .i64 ((Tier.access t key).2.1)), (9, .int .i64 ((Tier.access t key).2.2)), (10, .int .i64 (Tier.accessErr t key)), (11, .pointer (some ⟨B19, 0, none⟩)), (12, .int .i64 ((Tier.run t l).2.1)), (13, .int .i64 ((Tier.run t l).2.2)), (14, .int .i64 (Tier.runErr t l)), (15, .pointer (some ⟨B25, 0, none⟩)), (16, .int .i64 (Tier.check t)), (17, .int .i64 (Tier.check t)), (18, .int .i64 v), (19, .int .i64 (Lru.trace l)), (20, .pointer (some ⟨B26, 0, none⟩)), (21, .pointer (some ⟨B27, 0, none⟩)), (22, .int .i64 wh), (23, .int .i64 less), (24, .int .i64 one), (25, .int .i64 two), (26, .pointer (some ⟨B28, 0, none⟩)), (27, .int .i64 (i : Int))] [loose tInt (arr_1 = at_1 ∧ crr_1 = ct_1 ∧ rr.rest = t.rest) Srr_1 arr_1 crr_1 rr.rest, loose tInt (arr_0 = at_0 ∧ crr_0 = ct_0 ∧ rr.first = t.first) Srr_0 arr_0 crr_0 rr.first, loose tInt (False) Stc_1 atc_1 ctc_1 tc.rest, loose tInt (False) Stc_0 atc_0 ctc_0 tc.first, box B28 [.int .i64 0, .slice none 0 0] 48, box B27 [.int .i64 rr.near, .int .i64 rr.far, .slice arr_0 rr.first.length crr_0, .slice arr_1 rr.rest.length crr_1] 43, box B26 [.int .i64 tc.near, .int .i64 tc.far, .slice atc_0 tc.first.length ctc_0, .slice atc_1 tc.rest.length ctc_1] 43, box B25 [.int .i64 ((Tier.merged t).room), .slice a22 ((Tier.merged t).keys).length c23] 48, own tInt S20 a22 c23 ((Tier.merged t).keys), box B19 [.int .i64 (((Tier.run t l).1).near), .int .i64 (((Tier.run t l).1).far), .slice a13 (((Tier.run t l).1).first).length c14, .slice a15 (((Tier.run t l).1).rest).length c16] 43, ⟨S11, fun w => SlR tInt S11 w a13 c14 (((Tier.run t l).1).first) ∧ SlR tInt S11 w a15 c16 (((Tier.run t l).1).rest)⟩, box B10 [.int .i64 (((Tier.access t key).1).near), .int .i64 (((Tier.access t key).1).far), .slice a4 (((Tier.access t key).1).first).length c5, .slice a6 (((Tier.access t key).1).rest).length c7] 43, ⟨S2, fun w => SlR tInt S2 w a4 c5 (((Tier.access t key).1).first) ∧ SlR tInt S2 w a6 c7 (((Tier.access t key).1).rest)⟩, box B1 [.int .i64 t.near, .int .i64 t.far, .slice at_0 t.first.length ct_0, .slice at_1 t.rest.length ct_1] 43, base w0]
      refine c_seq ?_
      refine c_seq ?_
      refine c_region ?_
      refine o_pure (p_move (v := .int .i64 (i : Int)) rfl) rfl rfl rfl ?_
      refine o_pure (p_move (v := .slice al l.length cl) rfl) rfl rfl rfl ?_
      refine o_pure (p_len_slice (len := l.length) rfl rfl Try.underlying23) rfl rfl rfl ?_
      refine o_pure (p_lt (p := (i : Int)) (q := (l.length : Int)) rfl rfl) rfl rfl rfl ?_
      refine o_nil ?_
      refine q_then ?_
      refine c_cond (b := decide ((i : Int) < (l.length : Int))) rfl (fun hc49 => ?_) (fun hc49 => ?_)
      · simp only [decide_eq_true_eq] at hc49
        refine c_skip ?_
        refine q_then ?_
        refine c_seq ?_
        refine c_block ?_
        refine c_seq ?_
        refine c_cut (G := Option Addr × Nat × (Nat → Prop) × Option Addr × Nat × (Nat → Prop) × Nat) (fun ⟨a50_5, c50_5, S50_5, a50_5_1, c50_5_1, S50_5_1, B50_10⟩ => [(2, .slice al l.length cl), (3, .pointer (some ⟨B1, 0, none⟩)), (7, .pointer (some ⟨B10, 0, none⟩)), (8, .int .i64 ((Tier.access t key).2.1)), (9, .int .i64 ((Tier.access t key).2.2)), (10, .int .i64 (Tier.accessErr t key)), (11, .pointer (some ⟨B19, 0, none⟩)), (12, .int .i64 ((Tier.run t l).2.1)), (13, .int .i64 ((Tier.run t l).2.2)), (14, .int .i64 (Tier.runErr t l)), (15, .pointer (some ⟨B25, 0, none⟩)), (16, .int .i64 (Tier.check t)), (17, .int .i64 (Tier.check t)), (18, .int .i64 v), (19, .int .i64 (Lru.trace l)), (20, .pointer (some ⟨B26, 0, none⟩)), (21, .pointer (some ⟨B27, 0, none⟩)), (22, .int .i64 wh), (23, .int .i64 less), (24, .int .i64 one), (25, .int .i64 two), (26, .pointer (some ⟨B28, 0, none⟩)), (27, .int .i64 (i : Int)), (28, .pointer (some ⟨B50_10, 0, none⟩)), (29, .int .i64 (Tier.place rr (l[i])))]) (fun ⟨a50_5, c50_5, S50_5, a50_5_1, c50_5_1, S50_5_1, B50_10⟩ => [box B50_10 [.int .i64 (((Tier.touch rr (l[i])).1).near), .int .i64 (((Tier.touch rr (l[i])).1).far), .slice a50_5 (((Tier.touch rr (l[i])).1).first).length c50_5, .slice a50_5_1 (((Tier.touch rr (l[i])).1).rest).length c50_5_1] 43, own tInt S50_5 a50_5 c50_5 (((Tier.touch rr (l[i])).1).first), own tInt S50_5_1 a50_5_1 c50_5_1 (((Tier.touch rr (l[i])).1).rest), loose tInt (arr_1 = at_1 ∧ crr_1 = ct_1 ∧ rr.rest = t.rest) Srr_1 arr_1 crr_1 rr.rest, loose tInt (arr_0 = at_0 ∧ crr_0 = ct_0 ∧ rr.first = t.first) Srr_0 arr_0 crr_0 rr.first, loose tInt (False) Stc_1 atc_1 ctc_1 tc.rest, loose tInt (False) Stc_0 atc_0 ctc_0 tc.first, box B28 [.int .i64 0, .slice none 0 0] 48, box B27 [.int .i64 rr.near, .int .i64 rr.far, .slice arr_0 rr.first.length crr_0, .slice arr_1 rr.rest.length crr_1] 43, box B26 [.int .i64 tc.near, .int .i64 tc.far, .slice atc_0 tc.first.length ctc_0, .slice atc_1 tc.rest.length ctc_1] 43, box B25 [.int .i64 ((Tier.merged t).room), .slice a22 ((Tier.merged t).keys).length c23] 48, own tInt S20 a22 c23 ((Tier.merged t).keys), box B19 [.int .i64 (((Tier.run t l).1).near), .int .i64 (((Tier.run t l).1).far), .slice a13 (((Tier.run t l).1).first).length c14, .slice a15 (((Tier.run t l).1).rest).length c16] 43, ⟨S11, fun w => SlR tInt S11 w a13 c14 (((Tier.run t l).1).first) ∧ SlR tInt S11 w a15 c16 (((Tier.run t l).1).rest)⟩, box B10 [.int .i64 (((Tier.access t key).1).near), .int .i64 (((Tier.access t key).1).far), .slice a4 (((Tier.access t key).1).first).length c5, .slice a6 (((Tier.access t key).1).rest).length c7] 43, ⟨S2, fun w => SlR tInt S2 w a4 c5 (((Tier.access t key).1).first) ∧ SlR tInt S2 w a6 c7 (((Tier.access t key).1).rest)⟩, box B1 [.int .i64 t.near, .int .i64 t.far, .slice at_0 t.first.length ct_0, .slice at_1 t.rest.length ct_1] 43, base w0]) (fun K hK51 => ?_) ?_
        · refine c_held hmix [loose tInt (arr_1 = at_1 ∧ crr_1 = ct_1 ∧ rr.rest = t.rest) Srr_1 arr_1 crr_1 rr.rest, loose tInt (arr_0 = at_0 ∧ crr_0 = ct_0 ∧ rr.first = t.first) Srr_0 arr_0 crr_0 rr.first, loose tInt (False) Stc_1 atc_1 ctc_1 tc.rest, loose tInt (False) Stc_0 atc_0 ctc_0 tc.first, box B28 [.int .i64 0, .slice none 0 0] 48, box B27 [.int .i64 rr.near, .int .i64 rr.far, .slice arr_0 rr.first.length crr_0, .slice arr_1 rr.rest.length crr_1] 43, box B26 [.int .i64 tc.near, .int .i64 tc.far, .slice atc_0 tc.first.length ctc_0, .slice atc_1 tc.rest.length ctc_1] 43, box B25 [.int .i64 ((Tier.merged t).room), .slice a22 ((Tier.merged t).keys).length c23] 48, own tInt S20 a22 c23 ((Tier.merged t).keys), box B19 [.int .i64 (((Tier.run t l).1).near), .int .i64 (((Tier.run t l).1).far), .slice a13 (((Tier.run t l).1).first).length c14, .slice a15 (((Tier.run t l).1).rest).length c16] 43, ⟨S11, fun w => SlR tInt S11 w a13 c14 (((Tier.run t l).1).first) ∧ SlR tInt S11 w a15 c16 (((Tier.run t l).1).rest)⟩, box B10 [.int .i64 (((Tier.access t key).1).near), .int .i64 (((Tier.access t key).1).far), .slice a4 (((Tier.access t key).1).first).length c5, .slice a6 (((Tier.access t key).1).rest).length c7] 43, ⟨S2, fun w => SlR tInt S2 w a4 c5 (((Tier.access t key).1).first) ∧ SlR tInt S2 w a6 c7 (((Tier.access t key).1).rest)⟩, box B1 [.int .i64 t.near, .int .i64 t.far, .slice at_0 t.first.length ct_0, .slice at_1 t.rest.length ct_1] 43, base w0] rfl rfl ?_
          refine h_take (i := 0) (ls := #[true, false, false, false, false, false, false, false, false, false, false, false, false, false]) rfl (by kernel_rfl) (by kernel_rfl) (by kernel_rfl) (fun _ _ _ h => h) (p_load_agg (i := 5) (vs := [.int .i64 rr.near, .int .i64 rr.far, .slice arr_0 rr.first.length crr_0, .slice arr_1 rr.rest.length crr_1]) rfl rfl sh43 rfl rfl) rfl rfl rfl (fun _ hw => HeapIs.drop hw (List.Sublist.refl _)) rfl ?_
          refine h_take (i := 1) (ls := #[true, true, false, false, false, false, false, false, false, false, false, false, false, false]) rfl (by kernel_rfl) (by kernel_rfl) (by kernel_rfl) (fun _ _ _ h => h) (p_move (v := .slice al l.length cl) rfl) rfl rfl rfl (fun _ hw => HeapIs.drop hw (List.Sublist.refl _)) rfl ?_
          refine h_take (i := 2) (ls := #[true, true, true, false, false, false, false, false, false, false, false, false, false, false]) rfl (by kernel_rfl) (by kernel_rfl) (by kernel_rfl) (fun _ _ _ h => h) (p_move (v := .int .i64 (i : Int)) rfl) rfl rfl rfl (fun _ hw => HeapIs.drop hw (List.Sublist.refl _)) rfl ?_
          refine h_take (i := 3) (ls := #[true, true, true, true, false, false, false, false, false, false, false, false, false, false]) rfl (by kernel_rfl) (by kernel_rfl) (by kernel_rfl) (fun _ _ _ h => h) (p_indexAddr (L := l) (T := tInt) (i := (i : Int)) rfl rfl (rd_base (i := 14) rfl hl) Try.underlying23 sz3 (by omega) (by omega)) rfl rfl rfl (fun _ hw => HeapIs.drop hw (List.Sublist.refl _)) rfl ?_
          refine h_take (i := 4) (ls := #[true, true, true, true, true, false, false, false, false, false, false, false, false, false]) rfl (by kernel_rfl) (by kernel_rfl) (by kernel_rfl) (fun _ _ _ h => h) (p_loadE1 (i := i) (T := tInt) (L := l) (v := .int .i64 (l[i])) rfl (rd_base (i := 14) rfl hl) (by first | assumption | omega) sh3 rfl) rfl rfl rfl (fun _ hw => HeapIs.drop hw (List.Sublist.refl _)) rfl ?_
          refine h_two (i := 5) (j := 10) (ls := #[true, true, true, true, true, true, false, false, false, false, false, false, false, false]) (ls' := #[true, true, true, true, true, false, false, false, false, false, true, false, false, false]) (by kernel_rfl) rfl rfl rfl rfl ?_ ?_
          · refine o_callX (pre := []) (R := [loose tInt (arr_1 = at_1 ∧ crr_1 = ct_1 ∧ rr.rest = t.rest) Srr_1 arr_1 crr_1 rr.rest, loose tInt (arr_0 = at_0 ∧ crr_0 = ct_0 ∧ rr.first = t.first) Srr_0 arr_0 crr_0 rr.first, loose tInt (False) Stc_1 atc_1 ctc_1 tc.rest, loose tInt (False) Stc_0 atc_0 ctc_0 tc.first, box B28 [.int .i64 0, .slice none 0 0] 48, box B27 [.int .i64 rr.near, .int .i64 rr.far, .slice arr_0 rr.first.length crr_0, .slice arr_1 rr.rest.length crr_1] 43, box B26 [.int .i64 tc.near, .int .i64 tc.far, .slice atc_0 tc.first.length ctc_0, .slice atc_1 tc.rest.length ctc_1] 43, box B25 [.int .i64 ((Tier.merged t).room), .slice a22 ((Tier.merged t).keys).length c23] 48, own tInt S20 a22 c23 ((Tier.merged t).keys), box B19 [.int .i64 (((Tier.run t l).1).near), .int .i64 (((Tier.run t l).1).far), .slice a13 (((Tier.run t l).1).first).length c14, .slice a15 (((Tier.run t l).1).rest).length c16] 43, ⟨S11, fun w => SlR tInt S11 w a13 c14 (((Tier.run t l).1).first) ∧ SlR tInt S11 w a15 c16 (((Tier.run t l).1).rest)⟩, box B10 [.int .i64 (((Tier.access t key).1).near), .int .i64 (((Tier.access t key).1).far), .slice a4 (((Tier.access t key).1).first).length c5, .slice a6 (((Tier.access t key).1).rest).length c7] 43, ⟨S2, fun w => SlR tInt S2 w a4 c5 (((Tier.access t key).1).first) ∧ SlR tInt S2 w a6 c7 (((Tier.access t key).1).rest)⟩, box B1 [.int .i64 t.near, .int .i64 t.far, .slice at_0 t.first.length ct_0, .slice at_1 t.rest.length ct_1] 43, base w0]) rfl (rttouch_ok rr arr_0 crr_0 arr_1 crr_1 (l[i]) (by first | assumption | exact ⟨hok, hkey⟩ | exact ⟨hI.ok, hI.keys _ (List.getElem_mem (by omega))⟩)) hf31 rfl (fun w hw => ⟨(rdX_loose (i := 1) (js := []) rfl (by decide) rfl (fun hφ => by obtain ⟨h1, h2, h3⟩ := hφ; rw [h1, h2, h3]; exact (rdX (i := 14) (js := []) rfl (by decide) rfl (fun _ hA => slR_base ht_0 hA)))) w hw, (rdX_loose (i := 0) (js := []) rfl (by decide) rfl (fun hφ => by obtain ⟨h1, h2, h3⟩ := hφ; rw [h1, h2, h3]; exact (rdX (i := 14) (js := []) rfl (by decide) rfl (fun _ hA => slR_base ht_1 hA)))) w hw⟩) rfl ?_
            rintro ⟨a50_5, c50_5, S50_5, a50_5_1, c50_5_1, S50_5_1⟩
            refine o_asH (H' := [own tInt S50_5 a50_5 c50_5 (((Tier.touch rr (l[i])).1).first), own tInt S50_5_1 a50_5_1 c50_5_1 (((Tier.touch rr (l[i])).1).rest), loose tInt (arr_1 = at_1 ∧ crr_1 = ct_1 ∧ rr.rest = t.rest) Srr_1 arr_1 crr_1 rr.rest, loose tInt (arr_0 = at_0 ∧ crr_0 = ct_0 ∧ rr.first = t.first) Srr_0 arr_0 crr_0 rr.first, loose tInt (False) Stc_1 atc_1 ctc_1 tc.rest, loose tInt (False) Stc_0 atc_0 ctc_0 tc.first, box B28 [.int .i64 0, .slice none 0 0] 48, box B27 [.int .i64 rr.near, .int .i64 rr.far, .slice arr_0 rr.first.length crr_0, .slice arr_1 rr.rest.length crr_1] 43, box B26 [.int .i64 tc.near, .int .i64 tc.far, .slice atc_0 tc.first.length ctc_0, .slice atc_1 tc.rest.length ctc_1] 43, box B25 [.int .i64 ((Tier.merged t).room), .slice a22 ((Tier.merged t).keys).length c23] 48, own tInt S20 a22 c23 ((Tier.merged t).keys), box B19 [.int .i64 (((Tier.run t l).1).near), .int .i64 (((Tier.run t l).1).far), .slice a13 (((Tier.run t l).1).first).length c14, .slice a15 (((Tier.run t l).1).rest).length c16] 43, ⟨S11, fun w => SlR tInt S11 w a13 c14 (((Tier.run t l).1).first) ∧ SlR tInt S11 w a15 c16 (((Tier.run t l).1).rest)⟩, box B10 [.int .i64 (((Tier.access t key).1).near), .int .i64 (((Tier.access t key).1).far), .slice a4 (((Tier.access t key).1).first).length c5, .slice a6 (((Tier.access t key).1).rest).length c7] 43, ⟨S2, fun w => SlR tInt S2 w a4 c5 (((Tier.access t key).1).first) ∧ SlR tInt S2 w a6 c7 (((Tier.access t key).1).rest)⟩, box B1 [.int .i64 t.near, .int .i64 t.far, .slice at_0 t.first.length ct_0, .slice at_1 t.rest.length ct_1] 43, base w0]) rfl ?_
            refine o_nil ?_
            refine h_next (fun _ hw => HeapIs.drop hw (List.Sublist.cons _ (List.Sublist.cons _ (List.Sublist.cons_cons _ (List.Sublist.cons_cons _ (List.Sublist.cons_cons _ (List.Sublist.cons_cons _ (List.Sublist.cons_cons _ (List.Sublist.cons_cons _ (List.Sublist.cons_cons _ (List.Sublist.cons_cons _ (List.Sublist.cons_cons _ (List.Sublist.cons_cons _ (List.Sublist.cons_cons _ (List.Sublist.cons_cons _ (List.Sublist.cons_cons _ (List.Sublist.cons_cons _ (List.Sublist.cons_cons _ (List.Sublist.slnil))))))))))))))))))) ?_
            refine h_take (i := 6) (ls := #[true, true, true, true, true, true, true, false, false, false, false, false, false, false]) rfl (by kernel_rfl) (by kernel_rfl) (by kernel_rfl) (fun _ _ _ h => h) (p_move (v := .tuple #[.agg #[.int .i64 (((Tier.touch rr (l[i])).1).near), .int .i64 (((Tier.touch rr (l[i])).1).far), .slice a50_5 (((Tier.touch rr (l[i])).1).first).length c50_5, .slice a50_5_1 (((Tier.touch rr (l[i])).1).rest).length c50_5_1], .int .i64 (Tier.place rr (l[i])), .int .i64 (Tier.gone rr (l[i]))]) rfl) rfl rfl rfl (fun _ hw => HeapIs.drop hw (List.Sublist.cons _ (List.Sublist.cons _ (List.Sublist.cons_cons _ (List.Sublist.cons_cons _ (List.Sublist.cons_cons _ (List.Sublist.cons_cons _ (List.Sublist.cons_cons _ (List.Sublist.cons_cons _ (List.Sublist.cons_cons _ (List.Sublist.cons_cons _ (List.Sublist.cons_cons _ (List.Sublist.cons_cons _ (List.Sublist.cons_cons _ (List.Sublist.cons_cons _ (List.Sublist.cons_cons _ (List.Sublist.cons_cons _ (List.Sublist.cons_cons _ (List.Sublist.slnil))))))))))))))))))) rfl ?_
            refine h_take (i := 7) (ls := #[true, true, true, true, true, true, true, true, false, false, false, false, false, false]) rfl (by kernel_rfl) (by kernel_rfl) (by kernel_rfl) (fun _ _ _ h => h) (p_extract (vs := [.agg #[.int .i64 (((Tier.touch rr (l[i])).1).near), .int .i64 (((Tier.touch rr (l[i])).1).far), .slice a50_5 (((Tier.touch rr (l[i])).1).first).length c50_5, .slice a50_5_1 (((Tier.touch rr (l[i])).1).rest).length c50_5_1], .int .i64 (Tier.place rr (l[i])), .int .i64 (Tier.gone rr (l[i]))]) (v := .agg #[.int .i64 (((Tier.touch rr (l[i])).1).near), .int .i64 (((Tier.touch rr (l[i])).1).far), .slice a50_5 (((Tier.touch rr (l[i])).1).first).length c50_5, .slice a50_5_1 (((Tier.touch rr (l[i])).1).rest).length c50_5_1]) rfl rfl) rfl rfl rfl (fun _ hw => HeapIs.drop hw (List.Sublist.cons _ (List.Sublist.cons _ (List.Sublist.cons_cons _ (List.Sublist.cons_cons _ (List.Sublist.cons_cons _ (List.Sublist.cons_cons _ (List.Sublist.cons_cons _ (List.Sublist.cons_cons _ (List.Sublist.cons_cons _ (List.Sublist.cons_cons _ (List.Sublist.cons_cons _ (List.Sublist.cons_cons _ (List.Sublist.cons_cons _ (List.Sublist.cons_cons _ (List.Sublist.cons_cons _ (List.Sublist.cons_cons _ (List.Sublist.cons_cons _ (List.Sublist.slnil))))))))))))))))))) rfl ?_
            refine h_take (i := 8) (ls := #[true, true, true, true, true, true, true, true, true, false, false, false, false, false]) rfl (by kernel_rfl) (by kernel_rfl) (by kernel_rfl) (fun _ _ _ h => h) (p_extract (vs := [.agg #[.int .i64 (((Tier.touch rr (l[i])).1).near), .int .i64 (((Tier.touch rr (l[i])).1).far), .slice a50_5 (((Tier.touch rr (l[i])).1).first).length c50_5, .slice a50_5_1 (((Tier.touch rr (l[i])).1).rest).length c50_5_1], .int .i64 (Tier.place rr (l[i])), .int .i64 (Tier.gone rr (l[i]))]) (v := .int .i64 (Tier.place rr (l[i]))) rfl rfl) rfl rfl rfl (fun _ hw => HeapIs.drop hw (List.Sublist.cons _ (List.Sublist.cons _ (List.Sublist.cons_cons _ (List.Sublist.cons_cons _ (List.Sublist.cons_cons _ (List.Sublist.cons_cons _ (List.Sublist.cons_cons _ (List.Sublist.cons_cons _ (List.Sublist.cons_cons _ (List.Sublist.cons_cons _ (List.Sublist.cons_cons _ (List.Sublist.cons_cons _ (List.Sublist.cons_cons _ (List.Sublist.cons_cons _ (List.Sublist.cons_cons _ (List.Sublist.cons_cons _ (List.Sublist.cons_cons _ (List.Sublist.slnil))))))))))))))))))) rfl ?_
            refine h_take (i := 9) (ls := #[true, true, true, true, true, true, true, true, true, true, false, false, false, false]) rfl (by kernel_rfl) (by kernel_rfl) (by kernel_rfl) (fun _ _ _ h => h) (p_extract (vs := [.agg #[.int .i64 (((Tier.touch rr (l[i])).1).near), .int .i64 (((Tier.touch rr (l[i])).1).far), .slice a50_5 (((Tier.touch rr (l[i])).1).first).length c50_5, .slice a50_5_1 (((Tier.touch rr (l[i])).1).rest).length c50_5_1], .int .i64 (Tier.place rr (l[i])), .int .i64 (Tier.gone rr (l[i]))]) (v := .int .i64 (Tier.gone rr (l[i]))) rfl rfl) rfl rfl rfl (fun _ hw => HeapIs.drop hw (List.Sublist.cons _ (List.Sublist.cons _ (List.Sublist.cons_cons _ (List.Sublist.cons_cons _ (List.Sublist.cons_cons _ (List.Sublist.cons_cons _ (List.Sublist.cons_cons _ (List.Sublist.cons_cons _ (List.Sublist.cons_cons _ (List.Sublist.cons_cons _ (List.Sublist.cons_cons _ (List.Sublist.cons_cons _ (List.Sublist.cons_cons _ (List.Sublist.cons_cons _ (List.Sublist.cons_cons _ (List.Sublist.cons_cons _ (List.Sublist.cons_cons _ (List.Sublist.slnil))))))))))))))))))) rfl ?_
            refine h_one (i := 10) (ls := #[true, true, true, true, true, true, true, true, true, true, true, false, false, false]) (by kernel_rfl) rfl rfl ?_
            refine o_alloc ze43 rfl (fun B50_10 => ?_)
            refine o_nil ?_
            refine h_next (fun _ hw => HeapIs.drop hw (List.Sublist.cons _ (List.Sublist.cons _ (List.Sublist.cons _ (List.Sublist.cons_cons _ (List.Sublist.cons_cons _ (List.Sublist.cons_cons _ (List.Sublist.cons_cons _ (List.Sublist.cons_cons _ (List.Sublist.cons_cons _ (List.Sublist.cons_cons _ (List.Sublist.cons_cons _ (List.Sublist.cons_cons _ (List.Sublist.cons_cons _ (List.Sublist.cons_cons _ (List.Sublist.cons_cons _ (List.Sublist.cons_cons _ (List.Sublist.cons_cons _ (List.Sublist.cons_cons _ (List.Sublist.slnil)))))))))))))))))))) ?_
            refine h_one (i := 11) (ls := #[true, true, true, true, true, true, true, true, true, true, true, true, false, false]) (by kernel_rfl) rfl rfl ?_
            refine o_storeN (i := 0) (vs := [.int .i64 (((Tier.touch rr (l[i])).1).near), .int .i64 (((Tier.touch rr (l[i])).1).far), .slice a50_5 (((Tier.touch rr (l[i])).1).first).length c50_5, .slice a50_5_1 (((Tier.touch rr (l[i])).1).rest).length c50_5_1]) (cs' := [.int .i64 (((Tier.touch rr (l[i])).1).near), .int .i64 (((Tier.touch rr (l[i])).1).far), .slice a50_5 (((Tier.touch rr (l[i])).1).first).length c50_5, .slice a50_5_1 (((Tier.touch rr (l[i])).1).rest).length c50_5_1]) rfl rfl rfl sz43 rfl rfl rfl rfl ?_
            refine o_nil ?_
            refine h_next (fun _ hw => HeapIs.drop hw (List.Sublist.cons _ (List.Sublist.cons _ (List.Sublist.cons _ (List.Sublist.cons_cons _ (List.Sublist.cons_cons _ (List.Sublist.cons_cons _ (List.Sublist.cons_cons _ (List.Sublist.cons_cons _ (List.Sublist.cons_cons _ (List.Sublist.cons_cons _ (List.Sublist.cons_cons _ (List.Sublist.cons_cons _ (List.Sublist.cons_cons _ (List.Sublist.cons_cons _ (List.Sublist.cons_cons _ (List.Sublist.cons_cons _ (List.Sublist.cons_cons _ (List.Sublist.cons_cons _ (List.Sublist.slnil)))))))))))))))))))) ?_
            refine h_take (i := 12) (ls := #[true, true, true, true, true, true, true, true, true, true, true, true, true, false]) rfl (by kernel_rfl) (by kernel_rfl) (by kernel_rfl) (fun _ _ _ h => h) (p_assign (v := .int .i64 (Tier.place rr (l[i]))) rfl) rfl rfl rfl (fun _ hw => HeapIs.drop hw (List.Sublist.cons _ (List.Sublist.cons _ (List.Sublist.cons _ (List.Sublist.cons_cons _ (List.Sublist.cons_cons _ (List.Sublist.cons_cons _ (List.Sublist.cons_cons _ (List.Sublist.cons_cons _ (List.Sublist.cons_cons _ (List.Sublist.cons_cons _ (List.Sublist.cons_cons _ (List.Sublist.cons_cons _ (List.Sublist.cons_cons _ (List.Sublist.cons_cons _ (List.Sublist.cons_cons _ (List.Sublist.cons_cons _ (List.Sublist.cons_cons _ (List.Sublist.cons_cons _ (List.Sublist.slnil)))))))))))))))))))) rfl ?_
            refine h_take (i := 13) (ls := #[true, true, true, true, true, true, true, true, true, true, true, true, true, true]) rfl (by kernel_rfl) (by kernel_rfl) (by kernel_rfl) (fun _ _ _ h => h) (p_assign (v := .int .i64 (Tier.gone rr (l[i]))) rfl) rfl rfl rfl (fun _ hw => HeapIs.drop hw (List.Sublist.cons _ (List.Sublist.cons _ (List.Sublist.cons _ (List.Sublist.cons_cons _ (List.Sublist.cons_cons _ (List.Sublist.cons_cons _ (List.Sublist.cons_cons _ (List.Sublist.cons_cons _ (List.Sublist.cons_cons _ (List.Sublist.cons_cons _ (List.Sublist.cons_cons _ (List.Sublist.cons_cons _ (List.Sublist.cons_cons _ (List.Sublist.cons_cons _ (List.Sublist.cons_cons _ (List.Sublist.cons_cons _ (List.Sublist.cons_cons _ (List.Sublist.cons_cons _ (List.Sublist.slnil)))))))))))))))))))) rfl ?_
            refine h_done (by kernel_rfl) ?_
            refine q_kont hK51 (a50_5, c50_5, S50_5, a50_5_1, c50_5_1, S50_5_1, B50_10) (Sub.cons rfl (Sub.cons rfl (Sub.cons rfl (Sub.cons rfl (Sub.cons rfl (Sub.cons rfl (Sub.cons rfl (Sub.cons rfl (Sub.cons rfl (Sub.cons rfl (Sub.cons rfl (Sub.cons rfl (Sub.cons rfl (Sub.cons rfl (Sub.cons rfl (Sub.cons rfl (Sub.cons rfl (Sub.cons rfl (Sub.cons rfl (Sub.cons rfl (Sub.cons rfl (Sub.cons rfl (Sub.cons rfl (Sub.cons rfl (Sub.cons rfl (Sub.nil _)))))))))))))))))))))))))) (fun _ hw => HeapIs.pick hw [0, 1, 2, 3, 4, 5, 6, 7, 8, 9, 10, 11, 12, 13, 14, 15, 16, 17] (by decide) rfl)
          · refine o_alloc ze43 rfl (fun B50_10 => ?_)
            refine o_nil ?_
            refine h_next (fun _ hw => HeapIs.drop hw (List.Sublist.cons _ (List.Sublist.cons_cons _ (List.Sublist.cons_cons _ (List.Sublist.cons_cons _ (List.Sublist.cons_cons _ (List.Sublist.cons_cons _ (List.Sublist.cons_cons _ (List.Sublist.cons_cons _ (List.Sublist.cons_cons _ (List.Sublist.cons_cons _ (List.Sublist.cons_cons _ (List.Sublist.cons_cons _ (List.Sublist.cons_cons _ (List.Sublist.cons_cons _ (List.Sublist.cons_cons _ (List.Sublist.cons_cons _ (List.Sublist.slnil)))))))))))))))))) ?_
            refine h_one (i := 5) (ls := #[true, true, true, true, true, true, false, false, false, false, true, false, false, false]) (by kernel_rfl) rfl rfl ?_
            refine o_callX (pre := []) (R := [box B50_10 [.int .i64 0, .int .i64 0, .slice none 0 0, .slice none 0 0] 43, loose tInt (arr_1 = at_1 ∧ crr_1 = ct_1 ∧ rr.rest = t.rest) Srr_1 arr_1 crr_1 rr.rest, loose tInt (arr_0 = at_0 ∧ crr_0 = ct_0 ∧ rr.first = t.first) Srr_0 arr_0 crr_0 rr.first, loose tInt (False) Stc_1 atc_1 ctc_1 tc.rest, loose tInt (False) Stc_0 atc_0 ctc_0 tc.first, box B28 [.int .i64 0, .slice none 0 0] 48, box B27 [.int .i64 rr.near, .int .i64 rr.far, .slice arr_0 rr.first.length crr_0, .slice arr_1 rr.rest.length crr_1] 43, box B26 [.int .i64 tc.near, .int .i64 tc.far, .slice atc_0 tc.first.length ctc_0, .slice atc_1 tc.rest.length ctc_1] 43, box B25 [.int .i64 ((Tier.merged t).room), .slice a22 ((Tier.merged t).keys).length c23] 48, own tInt S20 a22 c23 ((Tier.merged t).keys), box B19 [.int .i64 (((Tier.run t l).1).near), .int .i64 (((Tier.run t l).1).far), .slice a13 (((Tier.run t l).1).first).length c14, .slice a15 (((Tier.run t l).1).rest).length c16] 43, ⟨S11, fun w => SlR tInt S11 w a13 c14 (((Tier.run t l).1).first) ∧ SlR tInt S11 w a15 c16 (((Tier.run t l).1).rest)⟩, box B10 [.int .i64 (((Tier.access t key).1).near), .int .i64 (((Tier.access t key).1).far), .slice a4 (((Tier.access t key).1).first).length c5, .slice a6 (((Tier.access t key).1).rest).length c7] 43, ⟨S2, fun w => SlR tInt S2 w a4 c5 (((Tier.access t key).1).first) ∧ SlR tInt S2 w a6 c7 (((Tier.access t key).1).rest)⟩, box B1 [.int .i64 t.near, .int .i64 t.far, .slice at_0 t.first.length ct_0, .slice at_1 t.rest.length ct_1] 43, base w0]) rfl (rttouch_ok rr arr_0 crr_0 arr_1 crr_1 (l[i]) (by first | assumption | exact ⟨hok, hkey⟩ | exact ⟨hI.ok, hI.keys _ (List.getElem_mem (by omega))⟩)) hf31 rfl (fun w hw => ⟨(rdX_loose (i := 2) (js := []) rfl (by decide) rfl (fun hφ => by obtain ⟨h1, h2, h3⟩ := hφ; rw [h1, h2, h3]; exact (rdX (i := 15) (js := []) rfl (by decide) rfl (fun _ hA => slR_base ht_0 hA)))) w hw, (rdX_loose (i := 1) (js := []) rfl (by decide) rfl (fun hφ => by obtain ⟨h1, h2, h3⟩ := hφ; rw [h1, h2, h3]; exact (rdX (i := 15) (js := []) rfl (by decide) rfl (fun _ hA => slR_base ht_1 hA)))) w hw⟩) rfl ?_
            rintro ⟨a50_5, c50_5, S50_5, a50_5_1, c50_5_1, S50_5_1⟩
            refine o_asH (H' := [own tInt S50_5 a50_5 c50_5 (((Tier.touch rr (l[i])).1).first), own tInt S50_5_1 a50_5_1 c50_5_1 (((Tier.touch rr (l[i])).1).rest), box B50_10 [.int .i64 0, .int .i64 0, .slice none 0 0, .slice none 0 0] 43, loose tInt (arr_1 = at_1 ∧ crr_1 = ct_1 ∧ rr.rest = t.rest) Srr_1 arr_1 crr_1 rr.rest, loose tInt (arr_0 = at_0 ∧ crr_0 = ct_0 ∧ rr.first = t.first) Srr_0 arr_0 crr_0 rr.first, loose tInt (False) Stc_1 atc_1 ctc_1 tc.rest, loose tInt (False) Stc_0 atc_0 ctc_0 tc.first, box B28 [.int .i64 0, .slice none 0 0] 48, box B27 [.int .i64 rr.near, .int .i64 rr.far, .slice arr_0 rr.first.length crr_0, .slice arr_1 rr.rest.length crr_1] 43, box B26 [.int .i64 tc.near, .int .i64 tc.far, .slice atc_0 tc.first.length ctc_0, .slice atc_1 tc.rest.length ctc_1] 43, box B25 [.int .i64 ((Tier.merged t).room), .slice a22 ((Tier.merged t).keys).length c23] 48, own tInt S20 a22 c23 ((Tier.merged t).keys), box B19 [.int .i64 (((Tier.run t l).1).near), .int .i64 (((Tier.run t l).1).far), .slice a13 (((Tier.run t l).1).first).length c14, .slice a15 (((Tier.run t l).1).rest).length c16] 43, ⟨S11, fun w => SlR tInt S11 w a13 c14 (((Tier.run t l).1).first) ∧ SlR tInt S11 w a15 c16 (((Tier.run t l).1).rest)⟩, box B10 [.int .i64 (((Tier.access t key).1).near), .int .i64 (((Tier.access t key).1).far), .slice a4 (((Tier.access t key).1).first).length c5, .slice a6 (((Tier.access t key).1).rest).length c7] 43, ⟨S2, fun w => SlR tInt S2 w a4 c5 (((Tier.access t key).1).first) ∧ SlR tInt S2 w a6 c7 (((Tier.access t key).1).rest)⟩, box B1 [.int .i64 t.near, .int .i64 t.far, .slice at_0 t.first.length ct_0, .slice at_1 t.rest.length ct_1] 43, base w0]) rfl ?_
            refine o_nil ?_
            refine h_next (fun _ hw => HeapIs.drop hw (List.Sublist.cons _ (List.Sublist.cons _ (List.Sublist.cons _ (List.Sublist.cons_cons _ (List.Sublist.cons_cons _ (List.Sublist.cons_cons _ (List.Sublist.cons_cons _ (List.Sublist.cons_cons _ (List.Sublist.cons_cons _ (List.Sublist.cons_cons _ (List.Sublist.cons_cons _ (List.Sublist.cons_cons _ (List.Sublist.cons_cons _ (List.Sublist.cons_cons _ (List.Sublist.cons_cons _ (List.Sublist.cons_cons _ (List.Sublist.cons_cons _ (List.Sublist.cons_cons _ (List.Sublist.slnil)))))))))))))))))))) ?_
            refine h_take (i := 6) (ls := #[true, true, true, true, true, true, true, false, false, false, true, false, false, false]) rfl (by kernel_rfl) (by kernel_rfl) (by kernel_rfl) (fun _ _ _ h => h) (p_move (v := .tuple #[.agg #[.int .i64 (((Tier.touch rr (l[i])).1).near), .int .i64 (((Tier.touch rr (l[i])).1).far), .slice a50_5 (((Tier.touch rr (l[i])).1).first).length c50_5, .slice a50_5_1 (((Tier.touch rr (l[i])).1).rest).length c50_5_1], .int .i64 (Tier.place rr (l[i])), .int .i64 (Tier.gone rr (l[i]))]) rfl) rfl rfl rfl (fun _ hw => HeapIs.drop hw (List.Sublist.cons _ (List.Sublist.cons _ (List.Sublist.cons _ (List.Sublist.cons_cons _ (List.Sublist.cons_cons _ (List.Sublist.cons_cons _ (List.Sublist.cons_cons _ (List.Sublist.cons_cons _ (List.Sublist.cons_cons _ (List.Sublist.cons_cons _ (List.Sublist.cons_cons _ (List.Sublist.cons_cons _ (List.Sublist.cons_cons _ (List.Sublist.cons_cons _ (List.Sublist.cons_cons _ (List.Sublist.cons_cons _ (List.Sublist.cons_cons _ (List.Sublist.cons_cons _ (List.Sublist.slnil)))))))))))))))))))) rfl ?_
            refine h_take (i := 7) (ls := #[true, true, true, true, true, true, true, true, false, false, true, false, false, false]) rfl (by kernel_rfl) (by kernel_rfl) (by kernel_rfl) (fun _ _ _ h => h) (p_extract (vs := [.agg #[.int .i64 (((Tier.touch rr (l[i])).1).near), .int .i64 (((Tier.touch rr (l[i])).1).far), .slice a50_5 (((Tier.touch rr (l[i])).1).first).length c50_5, .slice a50_5_1 (((Tier.touch rr (l[i])).1).rest).length c50_5_1], .int .i64 (Tier.place rr (l[i])), .int .i64 (Tier.gone rr (l[i]))]) (v := .agg #[.int .i64 (((Tier.touch rr (l[i])).1).near), .int .i64 (((Tier.touch rr (l[i])).1).far), .slice a50_5 (((Tier.touch rr (l[i])).1).first).length c50_5, .slice a50_5_1 (((Tier.touch rr (l[i])).1).rest).length c50_5_1]) rfl rfl) rfl rfl rfl (fun _ hw => HeapIs.drop hw (List.Sublist.cons _ (List.Sublist.cons _ (List.Sublist.cons _ (List.Sublist.cons_cons _ (List.Sublist.cons_cons _ (List.Sublist.cons_cons _ (List.Sublist.cons_cons _ (List.Sublist.cons_cons _ (List.Sublist.cons_cons _ (List.Sublist.cons_cons _ (List.Sublist.cons_cons _ (List.Sublist.cons_cons _ (List.Sublist.cons_cons _ (List.Sublist.cons_cons _ (List.Sublist.cons_cons _ (List.Sublist.cons_cons _ (List.Sublist.cons_cons _ (List.Sublist.cons_cons _ (List.Sublist.slnil)))))))))))))))))))) rfl ?_
            refine h_take (i := 8) (ls := #[true, true, true, true, true, true, true, true, true, false, true, false, false, false]) rfl (by kernel_rfl) (by kernel_rfl) (by kernel_rfl) (fun _ _ _ h => h) (p_extract (vs := [.agg #[.int .i64 (((Tier.touch rr (l[i])).1).near), .int .i64 (((Tier.touch rr (l[i])).1).far), .slice a50_5 (((Tier.touch rr (l[i])).1).first).length c50_5, .slice a50_5_1 (((Tier.touch rr (l[i])).1).rest).length c50_5_1], .int .i64 (Tier.place rr (l[i])), .int .i64 (Tier.gone rr (l[i]))]) (v := .int .i64 (Tier.place rr (l[i]))) rfl rfl) rfl rfl rfl (fun _ hw => HeapIs.drop hw (List.Sublist.cons _ (List.Sublist.cons _ (List.Sublist.cons _ (List.Sublist.cons_cons _ (List.Sublist.cons_cons _ (List.Sublist.cons_cons _ (List.Sublist.cons_cons _ (List.Sublist.cons_cons _ (List.Sublist.cons_cons _ (List.Sublist.cons_cons _ (List.Sublist.cons_cons _ (List.Sublist.cons_cons _ (List.Sublist.cons_cons _ (List.Sublist.cons_cons _ (List.Sublist.cons_cons _ (List.Sublist.cons_cons _ (List.Sublist.cons_cons _ (List.Sublist.cons_cons _ (List.Sublist.slnil)))))))))))))))))))) rfl ?_
            refine h_take (i := 9) (ls := #[true, true, true, true, true, true, true, true, true, true, true, false, false, false]) rfl (by kernel_rfl) (by kernel_rfl) (by kernel_rfl) (fun _ _ _ h => h) (p_extract (vs := [.agg #[.int .i64 (((Tier.touch rr (l[i])).1).near), .int .i64 (((Tier.touch rr (l[i])).1).far), .slice a50_5 (((Tier.touch rr (l[i])).1).first).length c50_5, .slice a50_5_1 (((Tier.touch rr (l[i])).1).rest).length c50_5_1], .int .i64 (Tier.place rr (l[i])), .int .i64 (Tier.gone rr (l[i]))]) (v := .int .i64 (Tier.gone rr (l[i]))) rfl rfl) rfl rfl rfl (fun _ hw => HeapIs.drop hw (List.Sublist.cons _ (List.Sublist.cons _ (List.Sublist.cons _ (List.Sublist.cons_cons _ (List.Sublist.cons_cons _ (List.Sublist.cons_cons _ (List.Sublist.cons_cons _ (List.Sublist.cons_cons _ (List.Sublist.cons_cons _ (List.Sublist.cons_cons _ (List.Sublist.cons_cons _ (List.Sublist.cons_cons _ (List.Sublist.cons_cons _ (List.Sublist.cons_cons _ (List.Sublist.cons_cons _ (List.Sublist.cons_cons _ (List.Sublist.cons_cons _ (List.Sublist.cons_cons _ (List.Sublist.slnil)))))))))))))))))))) rfl ?_
            refine h_one (i := 11) (ls := #[true, true, true, true, true, true, true, true, true, true, true, true, false, false]) (by kernel_rfl) rfl rfl ?_
            refine o_storeN (i := 2) (vs := [.int .i64 (((Tier.touch rr (l[i])).1).near), .int .i64 (((Tier.touch rr (l[i])).1).far), .slice a50_5 (((Tier.touch rr (l[i])).1).first).length c50_5, .slice a50_5_1 (((Tier.touch rr (l[i])).1).rest).length c50_5_1]) (cs' := [.int .i64 (((Tier.touch rr (l[i])).1).near), .int .i64 (((Tier.touch rr (l[i])).1).far), .slice a50_5 (((Tier.touch rr (l[i])).1).first).length c50_5, .slice a50_5_1 (((Tier.touch rr (l[i])).1).rest).length c50_5_1]) rfl rfl rfl sz43 rfl rfl rfl rfl ?_
            refine o_nil ?_
            refine h_next (fun _ hw => HeapIs.drop hw (List.Sublist.cons _ (List.Sublist.cons _ (List.Sublist.cons _ (List.Sublist.cons_cons _ (List.Sublist.cons_cons _ (List.Sublist.cons_cons _ (List.Sublist.cons_cons _ (List.Sublist.cons_cons _ (List.Sublist.cons_cons _ (List.Sublist.cons_cons _ (List.Sublist.cons_cons _ (List.Sublist.cons_cons _ (List.Sublist.cons_cons _ (List.Sublist.cons_cons _ (List.Sublist.cons_cons _ (List.Sublist.cons_cons _ (List.Sublist.cons_cons _ (List.Sublist.cons_cons _ (List.Sublist.slnil)))))))))))))))))))) ?_
            refine h_take (i := 12) (ls := #[true, true, true, true, true, true, true, true, true, true, true, true, true, false]) rfl (by kernel_rfl) (by kernel_rfl) (by kernel_rfl) (fun _ _ _ h => h) (p_assign (v := .int .i64 (Tier.place rr (l[i]))) rfl) rfl rfl rfl (fun _ hw => HeapIs.drop hw (List.Sublist.cons _ (List.Sublist.cons _ (List.Sublist.cons _ (List.Sublist.cons_cons _ (List.Sublist.cons_cons _ (List.Sublist.cons_cons _ (List.Sublist.cons_cons _ (List.Sublist.cons_cons _ (List.Sublist.cons_cons _ (List.Sublist.cons_cons _ (List.Sublist.cons_cons _ (List.Sublist.cons_cons _ (List.Sublist.cons_cons _ (List.Sublist.cons_cons _ (List.Sublist.cons_cons _ (List.Sublist.cons_cons _ (List.Sublist.cons_cons _ (List.Sublist.cons_cons _ (List.Sublist.slnil)))))))))))))))))))) rfl ?_
            refine h_take (i := 13) (ls := #[true, true, true, true, true, true, true, true, true, true, true, true, true, true]) rfl (by kernel_rfl) (by kernel_rfl) (by kernel_rfl) (fun _ _ _ h => h) (p_assign (v := .int .i64 (Tier.gone rr (l[i]))) rfl) rfl rfl rfl (fun _ hw => HeapIs.drop hw (List.Sublist.cons _ (List.Sublist.cons _ (List.Sublist.cons _ (List.Sublist.cons_cons _ (List.Sublist.cons_cons _ (List.Sublist.cons_cons _ (List.Sublist.cons_cons _ (List.Sublist.cons_cons _ (List.Sublist.cons_cons _ (List.Sublist.cons_cons _ (List.Sublist.cons_cons _ (List.Sublist.cons_cons _ (List.Sublist.cons_cons _ (List.Sublist.cons_cons _ (List.Sublist.cons_cons _ (List.Sublist.cons_cons _ (List.Sublist.cons_cons _ (List.Sublist.cons_cons _ (List.Sublist.slnil)))))))))))))))))))) rfl ?_
            refine h_done (by kernel_rfl) ?_
            refine q_kont hK51 (a50_5, c50_5, S50_5, a50_5_1, c50_5_1, S50_5_1, B50_10) (Sub.cons rfl (Sub.cons rfl (Sub.cons rfl (Sub.cons rfl (Sub.cons rfl (Sub.cons rfl (Sub.cons rfl (Sub.cons rfl (Sub.cons rfl (Sub.cons rfl (Sub.cons rfl (Sub.cons rfl (Sub.cons rfl (Sub.cons rfl (Sub.cons rfl (Sub.cons rfl (Sub.cons rfl (Sub.cons rfl (Sub.cons rfl (Sub.cons rfl (Sub.cons rfl (Sub.cons rfl (Sub.cons rfl (Sub.cons rfl (Sub.cons rfl (Sub.nil _)))))))))))))))))))))))))) (fun _ hw => HeapIs.pick hw [2, 0, 1, 3, 4, 5, 6, 7, 8, 9, 10, 11, 12, 13, 14, 15, 16, 17] (by decide) rfl)
        rintro ⟨a50_5, c50_5, S50_5, a50_5_1, c50_5_1, S50_5_1, B50_10⟩
        show SQ _ 180 w0 _ _ [(2, .slice al l.length cl), (3, .pointer (some ⟨B1, 0, none⟩)), (7, .pointer (some ⟨B10, 0, none⟩)), (8, .int .i64 ((Tier.access t key).2.1)), (9, .int .i64 ((Tier.access t key).2.2)), (10, .int .i64 (Tier.accessErr t key)), (11, .pointer (some ⟨B19, 0, none⟩)), (12, .int .i64 ((Tier.run t l).2.1)), (13, .int .i64 ((Tier.run t l).2.2)), (14, .int .i64 (Tier.runErr t l)), (15, .pointer (some ⟨B25, 0, none⟩)), (16, .int .i64 (Tier.check t)), (17, .int .i64 (Tier.check t)), (18, .int .i64 v), (19, .int .i64 (Lru.trace l)), (20, .pointer (some ⟨B26, 0, none⟩)), (21, .pointer (some ⟨B27, 0, none⟩)), (22, .int .i64 wh), (23, .int .i64 less), (24, .int .i64 one), (25, .int .i64 two), (26, .pointer (some ⟨B28, 0, none⟩)), (27, .int .i64 (i : Int)), (28, .pointer (some ⟨B50_10, 0, none⟩)), (29, .int .i64 (Tier.place rr (l[i])))] [box B50_10 [.int .i64 (((Tier.touch rr (l[i])).1).near), .int .i64 (((Tier.touch rr (l[i])).1).far), .slice a50_5 (((Tier.touch rr (l[i])).1).first).length c50_5, .slice a50_5_1 (((Tier.touch rr (l[i])).1).rest).length c50_5_1] 43, own tInt S50_5 a50_5 c50_5 (((Tier.touch rr (l[i])).1).first), own tInt S50_5_1 a50_5_1 c50_5_1 (((Tier.touch rr (l[i])).1).rest), loose tInt (arr_1 = at_1 ∧ crr_1 = ct_1 ∧ rr.rest = t.rest) Srr_1 arr_1 crr_1 rr.rest, loose tInt (arr_0 = at_0 ∧ crr_0 = ct_0 ∧ rr.first = t.first) Srr_0 arr_0 crr_0 rr.first, loose tInt (False) Stc_1 atc_1 ctc_1 tc.rest, loose tInt (False) Stc_0 atc_0 ctc_0 tc.first, box B28 [.int .i64 0, .slice none 0 0] 48, box B27 [.int .i64 rr.near, .int .i64 rr.far, .slice arr_0 rr.first.length crr_0, .slice arr_1 rr.rest.length crr_1] 43, box B26 [.int .i64 tc.near, .int .i64 tc.far, .slice atc_0 tc.first.length ctc_0, .slice atc_1 tc.rest.length ctc_1] 43, box B25 [.int .i64 ((Tier.merged t).room), .slice a22 ((Tier.merged t).keys).length c23] 48, own tInt S20 a22 c23 ((Tier.merged t).keys), box B19 [.int .i64 (((Tier.run t l).1).near), .int .i64 (((Tier.run t l).1).far), .slice a13 (((Tier.run t l).1).first).length c14, .slice a15 (((Tier.run t l).1).rest).length c16] 43, ⟨S11, fun w => SlR tInt S11 w a13 c14 (((Tier.run t l).1).first) ∧ SlR tInt S11 w a15 c16 (((Tier.run t l).1).rest)⟩, box B10 [.int .i64 (((Tier.access t key).1).near), .int .i64 (((Tier.access t key).1).far), .slice a4 (((Tier.access t key).1).first).length c5, .slice a6 (((Tier.access t key).1).rest).length c7] 43, ⟨S2, fun w => SlR tInt S2 w a4 c5 (((Tier.access t key).1).first) ∧ SlR tInt S2 w a6 c7 (((Tier.access t key).1).rest)⟩, box B1 [.int .i64 t.near, .int .i64 t.far, .slice at_0 t.first.length ct_0, .slice at_1 t.rest.length ct_1] 43, base w0]
        refine q_know (fun w hw => own_len (i := 1) (T := tInt) hw rfl) (fun hlr52 => ?_)
        refine q_know (fun w hw => own_len (i := 2) (T := tInt) hw rfl) (fun hlr53 => ?_)
        refine q_then ?_
        refine c_seq ?_
        refine c_region ?_
        refine o_pure (p_load_agg (i := 0) (vs := [.int .i64 (((Tier.touch rr (l[i])).1).near), .int .i64 (((Tier.touch rr (l[i])).1).far), .slice a50_5 (((Tier.touch rr (l[i])).1).first).length c50_5, .slice a50_5_1 (((Tier.touch rr (l[i])).1).rest).length c50_5_1]) rfl rfl sh43 rfl rfl) rfl rfl rfl ?_
        refine o_storeN (i := 8) (vs := [.int .i64 (((Tier.touch rr (l[i])).1).near), .int .i64 (((Tier.touch rr (l[i])).1).far), .slice a50_5 (((Tier.touch rr (l[i])).1).first).length c50_5, .slice a50_5_1 (((Tier.touch rr (l[i])).1).rest).length c50_5_1]) (cs' := [.int .i64 (((Tier.touch rr (l[i])).1).near), .int .i64 (((Tier.touch rr (l[i])).1).far), .slice a50_5 (((Tier.touch rr (l[i])).1).first).length c50_5, .slice a50_5_1 (((Tier.touch rr (l[i])).1).rest).length c50_5_1]) rfl rfl rfl sz43 rfl rfl rfl rfl ?_
        refine o_nil ?_
        refine q_then ?_
        refine c_seq ?_
        refine c_seq ?_
        refine c_region ?_
        refine o_pure (p_move (v := .int .i64 (Tier.place rr (l[i]))) rfl) rfl rfl rfl ?_
        refine o_pure (p_eq (p := (Tier.place rr (l[i]))) (q := 1) rfl rfl) rfl rfl rfl ?_
        refine o_nil ?_
        refine q_then ?_
        refine c_cond (b := ((Tier.place rr (l[i])) == 1)) rfl (fun hc54 => ?_) (fun hc54 => ?_)
        · simp only [beq_iff_eq] at hc54
          refine c_region ?_
          refine o_pure (p_move (v := .int .i64 one) rfl) rfl rfl rfl ?_
          refine o_pure (p_addb (p := one) (q := 1) rfl rfl (by omega)) rfl rfl rfl ?_
          refine o_pure (p_assign (v := .int .i64 (one + 1)) rfl) rfl rfl rfl ?_
          refine o_nil ?_
          refine q_then ?_
          refine c_seq ?_
          refine c_region ?_
          refine o_pure (p_move (v := .int .i64 (Tier.place rr (l[i]))) rfl) rfl rfl rfl ?_
          refine o_pure (p_eq (p := (Tier.place rr (l[i]))) (q := 2) rfl rfl) rfl rfl rfl ?_
          refine o_nil ?_
          refine q_then ?_
          refine c_cond (b := ((Tier.place rr (l[i])) == 2)) rfl (fun hc55 => ?_) (fun hc55 => ?_)
          · simp only [beq_iff_eq] at hc55
            refine c_region ?_
            refine o_pure (p_move (v := .int .i64 two) rfl) rfl rfl rfl ?_
            refine o_pure (p_addb (p := two) (q := 1) rfl rfl (by omega)) rfl rfl rfl ?_
            refine o_pure (p_assign (v := .int .i64 (two + 1)) rfl) rfl rfl rfl ?_
            refine o_nil ?_
            refine q_block_normal (q_then ?_)
            refine c_region ?_
            refine o_pure (p_move (v := .int .i64 (i : Int)) rfl) rfl rfl rfl ?_
            refine o_pure (p_addb (p := (i : Int)) (q := 1) rfl rfl (by omega)) rfl rfl rfl ?_
            refine o_pure (p_assign (v := .int .i64 ((i : Int) + 1)) rfl) rfl rfl rfl ?_
            refine o_nil ?_
            refine q_heap (H' := [box B50_10 [.int .i64 (((Tier.touch rr (l[i])).1).near), .int .i64 (((Tier.touch rr (l[i])).1).far), .slice a50_5 (((Tier.touch rr (l[i])).1).first).length c50_5, .slice a50_5_1 (((Tier.touch rr (l[i])).1).rest).length c50_5_1] 43, loose tInt (a50_5 = at_0 ∧ c50_5 = ct_0 ∧ (((Tier.touch rr (l[i])).1).first) = t.first) S50_5 a50_5 c50_5 (((Tier.touch rr (l[i])).1).first), own tInt S50_5_1 a50_5_1 c50_5_1 (((Tier.touch rr (l[i])).1).rest), loose tInt (arr_1 = at_1 ∧ crr_1 = ct_1 ∧ rr.rest = t.rest) Srr_1 arr_1 crr_1 rr.rest, loose tInt (arr_0 = at_0 ∧ crr_0 = ct_0 ∧ rr.first = t.first) Srr_0 arr_0 crr_0 rr.first, loose tInt (False) Stc_1 atc_1 ctc_1 tc.rest, loose tInt (False) Stc_0 atc_0 ctc_0 tc.first, box B28 [.int .i64 0, .slice none 0 0] 48, box B27 [.int .i64 (((Tier.touch rr (l[i])).1).near), .int .i64 (((Tier.touch rr (l[i])).1).far), .slice a50_5 (((Tier.touch rr (l[i])).1).first).length c50_5, .slice a50_5_1 (((Tier.touch rr (l[i])).1).rest).length c50_5_1] 43, box B26 [.int .i64 tc.near, .int .i64 tc.far, .slice atc_0 tc.first.length ctc_0, .slice atc_1 tc.rest.length ctc_1] 43, box B25 [.int .i64 ((Tier.merged t).room), .slice a22 ((Tier.merged t).keys).length c23] 48, own tInt S20 a22 c23 ((Tier.merged t).keys), box B19 [.int .i64 (((Tier.run t l).1).near), .int .i64 (((Tier.run t l).1).far), .slice a13 (((Tier.run t l).1).first).length c14, .slice a15 (((Tier.run t l).1).rest).length c16] 43, ⟨S11, fun w => SlR tInt S11 w a13 c14 (((Tier.run t l).1).first) ∧ SlR tInt S11 w a15 c16 (((Tier.run t l).1).rest)⟩, box B10 [.int .i64 (((Tier.access t key).1).near), .int .i64 (((Tier.access t key).1).far), .slice a4 (((Tier.access t key).1).first).length c5, .slice a6 (((Tier.access t key).1).rest).length c7] 43, ⟨S2, fun w => SlR tInt S2 w a4 c5 (((Tier.access t key).1).first) ∧ SlR tInt S2 w a6 c7 (((Tier.access t key).1).rest)⟩, box B1 [.int .i64 t.near, .int .i64 t.far, .slice at_0 t.first.length ct_0, .slice at_1 t.rest.length ct_1] 43, base w0]) (fun w hw => HeapIs.toLoose (i := 1) (T := tInt) rfl hw) ?_
            refine q_heap (H' := [box B50_10 [.int .i64 (((Tier.touch rr (l[i])).1).near), .int .i64 (((Tier.touch rr (l[i])).1).far), .slice a50_5 (((Tier.touch rr (l[i])).1).first).length c50_5, .slice a50_5_1 (((Tier.touch rr (l[i])).1).rest).length c50_5_1] 43, loose tInt (a50_5 = at_0 ∧ c50_5 = ct_0 ∧ (((Tier.touch rr (l[i])).1).first) = t.first) S50_5 a50_5 c50_5 (((Tier.touch rr (l[i])).1).first), loose tInt (a50_5_1 = at_1 ∧ c50_5_1 = ct_1 ∧ (((Tier.touch rr (l[i])).1).rest) = t.rest) S50_5_1 a50_5_1 c50_5_1 (((Tier.touch rr (l[i])).1).rest), loose tInt (arr_1 = at_1 ∧ crr_1 = ct_1 ∧ rr.rest = t.rest) Srr_1 arr_1 crr_1 rr.rest, loose tInt (arr_0 = at_0 ∧ crr_0 = ct_0 ∧ rr.first = t.first) Srr_0 arr_0 crr_0 rr.first, loose tInt (False) Stc_1 atc_1 ctc_1 tc.rest, loose tInt (False) Stc_0 atc_0 ctc_0 tc.first, box B28 [.int .i64 0, .slice none 0 0] 48, box B27 [.int .i64 (((Tier.touch rr (l[i])).1).near), .int .i64 (((Tier.touch rr (l[i])).1).far), .slice a50_5 (((Tier.touch rr (l[i])).1).first).length c50_5, .slice a50_5_1 (((Tier.touch rr (l[i])).1).rest).length c50_5_1] 43, box B26 [.int .i64 tc.near, .int .i64 tc.far, .slice atc_0 tc.first.length ctc_0, .slice atc_1 tc.rest.length ctc_1] 43, box B25 [.int .i64 ((Tier.merged t).room), .slice a22 ((Tier.merged t).keys).length c23] 48, own tInt S20 a22 c23 ((Tier.merged t).keys), box B19 [.int .i64 (((Tier.run t l).1).near), .int .i64 (((Tier.run t l).1).far), .slice a13 (((Tier.run t l).1).first).length c14, .slice a15 (((Tier.run t l).1).rest).length c16] 43, ⟨S11, fun w => SlR tInt S11 w a13 c14 (((Tier.run t l).1).first) ∧ SlR tInt S11 w a15 c16 (((Tier.run t l).1).rest)⟩, box B10 [.int .i64 (((Tier.access t key).1).near), .int .i64 (((Tier.access t key).1).far), .slice a4 (((Tier.access t key).1).first).length c5, .slice a6 (((Tier.access t key).1).rest).length c7] 43, ⟨S2, fun w => SlR tInt S2 w a4 c5 (((Tier.access t key).1).first) ∧ SlR tInt S2 w a6 c7 (((Tier.access t key).1).rest)⟩, box B1 [.int .i64 t.near, .int .i64 t.far, .slice at_0 t.first.length ct_0, .slice at_1 t.rest.length ct_1] 43, base w0]) (fun w hw => HeapIs.toLoose (i := 2) (T := tInt) rfl hw) ?_
            refine q_round hK48 ((one + 1), (two + 1), i + 1, ((Tier.touch rr (l[i])).1), a50_5, c50_5, S50_5, a50_5_1, c50_5_1, S50_5_1) ?_ ?_ ?_ ?_
            · clear hK48
              first | (exfalso; omega) | exact hI.next (by omega) (by rw [if_pos (by assumption)]) (by rw [if_neg (by omega)]) | exact hI.next (by omega) (by rw [if_neg (by omega)]) (by rw [if_pos (by assumption)]) | exact hI.next (by omega) (by rw [if_neg (by omega)]) (by rw [if_neg (by omega)])
            · (try dsimp only); omega
            · exact Sub.cons rfl (Sub.cons rfl (Sub.cons rfl (Sub.cons rfl (Sub.cons rfl (Sub.cons rfl (Sub.cons rfl (Sub.cons rfl (Sub.cons rfl (Sub.cons rfl (Sub.cons rfl (Sub.cons rfl (Sub.cons rfl (Sub.cons rfl (Sub.cons rfl (Sub.cons rfl (Sub.cons rfl (Sub.cons rfl (Sub.cons rfl (Sub.cons rfl (Sub.cons rfl (Sub.cons rfl (Sub.cons rfl (Sub.nil _)))))))))))))))))))))))
            · exact fun _ hw => HeapIs.pick hw [2, 1, 5, 6, 7, 8, 9, 10, 11, 12, 13, 14, 15, 16, 17] (by decide) rfl
          · simp only [beq_eq_false_iff_ne, ne_eq] at hc55
            refine c_skip ?_
            refine q_block_normal (q_then ?_)
            refine c_region ?_
            refine o_pure (p_move (v := .int .i64 (i : Int)) rfl) rfl rfl rfl ?_
            refine o_pure (p_addb (p := (i : Int)) (q := 1) rfl rfl (by omega)) rfl rfl rfl ?_
            refine o_pure (p_assign (v := .int .i64 ((i : Int) + 1)) rfl) rfl rfl rfl ?_
            refine o_nil ?_
            refine q_heap (H' := [box B50_10 [.int .i64 (((Tier.touch rr (l[i])).1).near), .int .i64 (((Tier.touch rr (l[i])).1).far), .slice a50_5 (((Tier.touch rr (l[i])).1).first).length c50_5, .slice a50_5_1 (((Tier.touch rr (l[i])).1).rest).length c50_5_1] 43, loose tInt (a50_5 = at_0 ∧ c50_5 = ct_0 ∧ (((Tier.touch rr (l[i])).1).first) = t.first) S50_5 a50_5 c50_5 (((Tier.touch rr (l[i])).1).first), own tInt S50_5_1 a50_5_1 c50_5_1 (((Tier.touch rr (l[i])).1).rest), loose tInt (arr_1 = at_1 ∧ crr_1 = ct_1 ∧ rr.rest = t.rest) Srr_1 arr_1 crr_1 rr.rest, loose tInt (arr_0 = at_0 ∧ crr_0 = ct_0 ∧ rr.first = t.first) Srr_0 arr_0 crr_0 rr.first, loose tInt (False) Stc_1 atc_1 ctc_1 tc.rest, loose tInt (False) Stc_0 atc_0 ctc_0 tc.first, box B28 [.int .i64 0, .slice none 0 0] 48, box B27 [.int .i64 (((Tier.touch rr (l[i])).1).near), .int .i64 (((Tier.touch rr (l[i])).1).far), .slice a50_5 (((Tier.touch rr (l[i])).1).first).length c50_5, .slice a50_5_1 (((Tier.touch rr (l[i])).1).rest).length c50_5_1] 43, box B26 [.int .i64 tc.near, .int .i64 tc.far, .slice atc_0 tc.first.length ctc_0, .slice atc_1 tc.rest.length ctc_1] 43, box B25 [.int .i64 ((Tier.merged t).room), .slice a22 ((Tier.merged t).keys).length c23] 48, own tInt S20 a22 c23 ((Tier.merged t).keys), box B19 [.int .i64 (((Tier.run t l).1).near), .int .i64 (((Tier.run t l).1).far), .slice a13 (((Tier.run t l).1).first).length c14, .slice a15 (((Tier.run t l).1).rest).length c16] 43, ⟨S11, fun w => SlR tInt S11 w a13 c14 (((Tier.run t l).1).first) ∧ SlR tInt S11 w a15 c16 (((Tier.run t l).1).rest)⟩, box B10 [.int .i64 (((Tier.access t key).1).near), .int .i64 (((Tier.access t key).1).far), .slice a4 (((Tier.access t key).1).first).length c5, .slice a6 (((Tier.access t key).1).rest).length c7] 43, ⟨S2, fun w => SlR tInt S2 w a4 c5 (((Tier.access t key).1).first) ∧ SlR tInt S2 w a6 c7 (((Tier.access t key).1).rest)⟩, box B1 [.int .i64 t.near, .int .i64 t.far, .slice at_0 t.first.length ct_0, .slice at_1 t.rest.length ct_1] 43, base w0]) (fun w hw => HeapIs.toLoose (i := 1) (T := tInt) rfl hw) ?_
            refine q_heap (H' := [box B50_10 [.int .i64 (((Tier.touch rr (l[i])).1).near), .int .i64 (((Tier.touch rr (l[i])).1).far), .slice a50_5 (((Tier.touch rr (l[i])).1).first).length c50_5, .slice a50_5_1 (((Tier.touch rr (l[i])).1).rest).length c50_5_1] 43, loose tInt (a50_5 = at_0 ∧ c50_5 = ct_0 ∧ (((Tier.touch rr (l[i])).1).first) = t.first) S50_5 a50_5 c50_5 (((Tier.touch rr (l[i])).1).first), loose tInt (a50_5_1 = at_1 ∧ c50_5_1 = ct_1 ∧ (((Tier.touch rr (l[i])).1).rest) = t.rest) S50_5_1 a50_5_1 c50_5_1 (((Tier.touch rr (l[i])).1).rest), loose tInt (arr_1 = at_1 ∧ crr_1 = ct_1 ∧ rr.rest = t.rest) Srr_1 arr_1 crr_1 rr.rest, loose tInt (arr_0 = at_0 ∧ crr_0 = ct_0 ∧ rr.first = t.first) Srr_0 arr_0 crr_0 rr.first, loose tInt (False) Stc_1 atc_1 ctc_1 tc.rest, loose tInt (False) Stc_0 atc_0 ctc_0 tc.first, box B28 [.int .i64 0, .slice none 0 0] 48, box B27 [.int .i64 (((Tier.touch rr (l[i])).1).near), .int .i64 (((Tier.touch rr (l[i])).1).far), .slice a50_5 (((Tier.touch rr (l[i])).1).first).length c50_5, .slice a50_5_1 (((Tier.touch rr (l[i])).1).rest).length c50_5_1] 43, box B26 [.int .i64 tc.near, .int .i64 tc.far, .slice atc_0 tc.first.length ctc_0, .slice atc_1 tc.rest.length ctc_1] 43, box B25 [.int .i64 ((Tier.merged t).room), .slice a22 ((Tier.merged t).keys).length c23] 48, own tInt S20 a22 c23 ((Tier.merged t).keys), box B19 [.int .i64 (((Tier.run t l).1).near), .int .i64 (((Tier.run t l).1).far), .slice a13 (((Tier.run t l).1).first).length c14, .slice a15 (((Tier.run t l).1).rest).length c16] 43, ⟨S11, fun w => SlR tInt S11 w a13 c14 (((Tier.run t l).1).first) ∧ SlR tInt S11 w a15 c16 (((Tier.run t l).1).rest)⟩, box B10 [.int .i64 (((Tier.access t key).1).near), .int .i64 (((Tier.access t key).1).far), .slice a4 (((Tier.access t key).1).first).length c5, .slice a6 (((Tier.access t key).1).rest).length c7] 43, ⟨S2, fun w => SlR tInt S2 w a4 c5 (((Tier.access t key).1).first) ∧ SlR tInt S2 w a6 c7 (((Tier.access t key).1).rest)⟩, box B1 [.int .i64 t.near, .int .i64 t.far, .slice at_0 t.first.length ct_0, .slice at_1 t.rest.length ct_1] 43, base w0]) (fun w hw => HeapIs.toLoose (i := 2) (T := tInt) rfl hw) ?_
            refine q_round hK48 ((one + 1), two, i + 1, ((Tier.touch rr (l[i])).1), a50_5, c50_5, S50_5, a50_5_1, c50_5_1, S50_5_1) ?_ ?_ ?_ ?_
            · clear hK48
              first | (exfalso; omega) | exact hI.next (by omega) (by rw [if_pos (by assumption)]) (by rw [if_neg (by omega)]) | exact hI.next (by omega) (by rw [if_neg (by omega)]) (by rw [if_pos (by assumption)]) | exact hI.next (by omega) (by rw [if_neg (by omega)]) (by rw [if_neg (by omega)])
            · (try dsimp only); omega
            · exact Sub.cons rfl (Sub.cons rfl (Sub.cons rfl (Sub.cons rfl (Sub.cons rfl (Sub.cons rfl (Sub.cons rfl (Sub.cons rfl (Sub.cons rfl (Sub.cons rfl (Sub.cons rfl (Sub.cons rfl (Sub.cons rfl (Sub.cons rfl (Sub.cons rfl (Sub.cons rfl (Sub.cons rfl (Sub.cons rfl (Sub.cons rfl (Sub.cons rfl (Sub.cons rfl (Sub.cons rfl (Sub.cons rfl (Sub.nil _)))))))))))))))))))))))
            · exact fun _ hw => HeapIs.pick hw [2, 1, 5, 6, 7, 8, 9, 10, 11, 12, 13, 14, 15, 16, 17] (by decide) rfl
        · simp only [beq_eq_false_iff_ne, ne_eq] at hc54
          refine c_skip ?_
          refine q_then ?_
          refine c_seq ?_
          refine c_region ?_
          refine o_pure (p_move (v := .int .i64 (Tier.place rr (l[i]))) rfl) rfl rfl rfl ?_
          refine o_pure (p_eq (p := (Tier.place rr (l[i]))) (q := 2) rfl rfl) rfl rfl rfl ?_
          refine o_nil ?_
          refine q_then ?_
          refine c_cond (b := ((Tier.place rr (l[i])) == 2)) rfl (fun hc56 => ?_) (fun hc56 => ?_)
          · simp only [beq_iff_eq] at hc56
            refine c_region ?_
            refine o_pure (p_move (v := .int .i64 two) rfl) rfl rfl rfl ?_
            refine o_pure (p_addb (p := two) (q := 1) rfl rfl (by omega)) rfl rfl rfl ?_
            refine o_pure (p_assign (v := .int .i64 (two + 1)) rfl) rfl rfl rfl ?_
            refine o_nil ?_
            refine q_block_normal (q_then ?_)
            refine c_region ?_
            refine o_pure (p_move (v := .int .i64 (i : Int)) rfl) rfl rfl rfl ?_
            refine o_pure (p_addb (p := (i : Int)) (q := 1) rfl rfl (by omega)) rfl rfl rfl ?_
            refine o_pure (p_assign (v := .int .i64 ((i : Int) + 1)) rfl) rfl rfl rfl ?_
            refine o_nil ?_
            refine q_heap (H' := [box B50_10 [.int .i64 (((Tier.touch rr (l[i])).1).near), .int .i64 (((Tier.touch rr (l[i])).1).far), .slice a50_5 (((Tier.touch rr (l[i])).1).first).length c50_5, .slice a50_5_1 (((Tier.touch rr (l[i])).1).rest).length c50_5_1] 43, loose tInt (a50_5 = at_0 ∧ c50_5 = ct_0 ∧ (((Tier.touch rr (l[i])).1).first) = t.first) S50_5 a50_5 c50_5 (((Tier.touch rr (l[i])).1).first), own tInt S50_5_1 a50_5_1 c50_5_1 (((Tier.touch rr (l[i])).1).rest), loose tInt (arr_1 = at_1 ∧ crr_1 = ct_1 ∧ rr.rest = t.rest) Srr_1 arr_1 crr_1 rr.rest, loose tInt (arr_0 = at_0 ∧ crr_0 = ct_0 ∧ rr.first = t.first) Srr_0 arr_0 crr_0 rr.first, loose tInt (False) Stc_1 atc_1 ctc_1 tc.rest, loose tInt (False) Stc_0 atc_0 ctc_0 tc.first, box B28 [.int .i64 0, .slice none 0 0] 48, box B27 [.int .i64 (((Tier.touch rr (l[i])).1).near), .int .i64 (((Tier.touch rr (l[i])).1).far), .slice a50_5 (((Tier.touch rr (l[i])).1).first).length c50_5, .slice a50_5_1 (((Tier.touch rr (l[i])).1).rest).length c50_5_1] 43, box B26 [.int .i64 tc.near, .int .i64 tc.far, .slice atc_0 tc.first.length ctc_0, .slice atc_1 tc.rest.length ctc_1] 43, box B25 [.int .i64 ((Tier.merged t).room), .slice a22 ((Tier.merged t).keys).length c23] 48, own tInt S20 a22 c23 ((Tier.merged t).keys), box B19 [.int .i64 (((Tier.run t l).1).near), .int .i64 (((Tier.run t l).1).far), .slice a13 (((Tier.run t l).1).first).length c14, .slice a15 (((Tier.run t l).1).rest).length c16] 43, ⟨S11, fun w => SlR tInt S11 w a13 c14 (((Tier.run t l).1).first) ∧ SlR tInt S11 w a15 c16 (((Tier.run t l).1).rest)⟩, box B10 [.int .i64 (((Tier.access t key).1).near), .int .i64 (((Tier.access t key).1).far), .slice a4 (((Tier.access t key).1).first).length c5, .slice a6 (((Tier.access t key).1).rest).length c7] 43, ⟨S2, fun w => SlR tInt S2 w a4 c5 (((Tier.access t key).1).first) ∧ SlR tInt S2 w a6 c7 (((Tier.access t key).1).rest)⟩, box B1 [.int .i64 t.near, .int .i64 t.far, .slice at_0 t.first.length ct_0, .slice at_1 t.rest.length ct_1] 43, base w0]) (fun w hw => HeapIs.toLoose (i := 1) (T := tInt) rfl hw) ?_
            refine q_heap (H' := [box B50_10 [.int .i64 (((Tier.touch rr (l[i])).1).near), .int .i64 (((Tier.touch rr (l[i])).1).far), .slice a50_5 (((Tier.touch rr (l[i])).1).first).length c50_5, .slice a50_5_1 (((Tier.touch rr (l[i])).1).rest).length c50_5_1] 43, loose tInt (a50_5 = at_0 ∧ c50_5 = ct_0 ∧ (((Tier.touch rr (l[i])).1).first) = t.first) S50_5 a50_5 c50_5 (((Tier.touch rr (l[i])).1).first), loose tInt (a50_5_1 = at_1 ∧ c50_5_1 = ct_1 ∧ (((Tier.touch rr (l[i])).1).rest) = t.rest) S50_5_1 a50_5_1 c50_5_1 (((Tier.touch rr (l[i])).1).rest), loose tInt (arr_1 = at_1 ∧ crr_1 = ct_1 ∧ rr.rest = t.rest) Srr_1 arr_1 crr_1 rr.rest, loose tInt (arr_0 = at_0 ∧ crr_0 = ct_0 ∧ rr.first = t.first) Srr_0 arr_0 crr_0 rr.first, loose tInt (False) Stc_1 atc_1 ctc_1 tc.rest, loose tInt (False) Stc_0 atc_0 ctc_0 tc.first, box B28 [.int .i64 0, .slice none 0 0] 48, box B27 [.int .i64 (((Tier.touch rr (l[i])).1).near), .int .i64 (((Tier.touch rr (l[i])).1).far), .slice a50_5 (((Tier.touch rr (l[i])).1).first).length c50_5, .slice a50_5_1 (((Tier.touch rr (l[i])).1).rest).length c50_5_1] 43, box B26 [.int .i64 tc.near, .int .i64 tc.far, .slice atc_0 tc.first.length ctc_0, .slice atc_1 tc.rest.length ctc_1] 43, box B25 [.int .i64 ((Tier.merged t).room), .slice a22 ((Tier.merged t).keys).length c23] 48, own tInt S20 a22 c23 ((Tier.merged t).keys), box B19 [.int .i64 (((Tier.run t l).1).near), .int .i64 (((Tier.run t l).1).far), .slice a13 (((Tier.run t l).1).first).length c14, .slice a15 (((Tier.run t l).1).rest).length c16] 43, ⟨S11, fun w => SlR tInt S11 w a13 c14 (((Tier.run t l).1).first) ∧ SlR tInt S11 w a15 c16 (((Tier.run t l).1).rest)⟩, box B10 [.int .i64 (((Tier.access t key).1).near), .int .i64 (((Tier.access t key).1).far), .slice a4 (((Tier.access t key).1).first).length c5, .slice a6 (((Tier.access t key).1).rest).length c7] 43, ⟨S2, fun w => SlR tInt S2 w a4 c5 (((Tier.access t key).1).first) ∧ SlR tInt S2 w a6 c7 (((Tier.access t key).1).rest)⟩, box B1 [.int .i64 t.near, .int .i64 t.far, .slice at_0 t.first.length ct_0, .slice at_1 t.rest.length ct_1] 43, base w0]) (fun w hw => HeapIs.toLoose (i := 2) (T := tInt) rfl hw) ?_
            refine q_round hK48 (one, (two + 1), i + 1, ((Tier.touch rr (l[i])).1), a50_5, c50_5, S50_5, a50_5_1, c50_5_1, S50_5_1) ?_ ?_ ?_ ?_
            · clear hK48
              first | (exfalso; omega) | exact hI.next (by omega) (by rw [if_pos (by assumption)]) (by rw [if_neg (by omega)]) | exact hI.next (by omega) (by rw [if_neg (by omega)]) (by rw [if_pos (by assumption)]) | exact hI.next (by omega) (by rw [if_neg (by omega)]) (by rw [if_neg (by omega)])
            · (try dsimp only); omega
            · exact Sub.cons rfl (Sub.cons rfl (Sub.cons rfl (Sub.cons rfl (Sub.cons rfl (Sub.cons rfl (Sub.cons rfl (Sub.cons rfl (Sub.cons rfl (Sub.cons rfl (Sub.cons rfl (Sub.cons rfl (Sub.cons rfl (Sub.cons rfl (Sub.cons rfl (Sub.cons rfl (Sub.cons rfl (Sub.cons rfl (Sub.cons rfl (Sub.cons rfl (Sub.cons rfl (Sub.cons rfl (Sub.cons rfl (Sub.nil _)))))))))))))))))))))))
            · exact fun _ hw => HeapIs.pick hw [2, 1, 5, 6, 7, 8, 9, 10, 11, 12, 13, 14, 15, 16, 17] (by decide) rfl
          · simp only [beq_eq_false_iff_ne, ne_eq] at hc56
            refine c_skip ?_
            refine q_block_normal (q_then ?_)
            refine c_region ?_
            refine o_pure (p_move (v := .int .i64 (i : Int)) rfl) rfl rfl rfl ?_
            refine o_pure (p_addb (p := (i : Int)) (q := 1) rfl rfl (by omega)) rfl rfl rfl ?_
            refine o_pure (p_assign (v := .int .i64 ((i : Int) + 1)) rfl) rfl rfl rfl ?_
            refine o_nil ?_
            refine q_heap (H' := [box B50_10 [.int .i64 (((Tier.touch rr (l[i])).1).near), .int .i64 (((Tier.touch rr (l[i])).1).far), .slice a50_5 (((Tier.touch rr (l[i])).1).first).length c50_5, .slice a50_5_1 (((Tier.touch rr (l[i])).1).rest).length c50_5_1] 43, loose tInt (a50_5 = at_0 ∧ c50_5 = ct_0 ∧ (((Tier.touch rr (l[i])).1).first) = t.first) S50_5 a50_5 c50_5 (((Tier.touch rr (l[i])).1).first), own tInt S50_5_1 a50_5_1 c50_5_1 (((Tier.touch rr (l[i])).1).rest), loose tInt (arr_1 = at_1 ∧ crr_1 = ct_1 ∧ rr.rest = t.rest) Srr_1 arr_1 crr_1 rr.rest, loose tInt (arr_0 = at_0 ∧ crr_0 = ct_0 ∧ rr.first = t.first) Srr_0 arr_0 crr_0 rr.first, loose tInt (False) Stc_1 atc_1 ctc_1 tc.rest, loose tInt (False) Stc_0 atc_0 ctc_0 tc.first, box B28 [.int .i64 0, .slice none 0 0] 48, box B27 [.int .i64 (((Tier.touch rr (l[i])).1).near), .int .i64 (((Tier.touch rr (l[i])).1).far), .slice a50_5 (((Tier.touch rr (l[i])).1).first).length c50_5, .slice a50_5_1 (((Tier.touch rr (l[i])).1).rest).length c50_5_1] 43, box B26 [.int .i64 tc.near, .int .i64 tc.far, .slice atc_0 tc.first.length ctc_0, .slice atc_1 tc.rest.length ctc_1] 43, box B25 [.int .i64 ((Tier.merged t).room), .slice a22 ((Tier.merged t).keys).length c23] 48, own tInt S20 a22 c23 ((Tier.merged t).keys), box B19 [.int .i64 (((Tier.run t l).1).near), .int .i64 (((Tier.run t l).1).far), .slice a13 (((Tier.run t l).1).first).length c14, .slice a15 (((Tier.run t l).1).rest).length c16] 43, ⟨S11, fun w => SlR tInt S11 w a13 c14 (((Tier.run t l).1).first) ∧ SlR tInt S11 w a15 c16 (((Tier.run t l).1).rest)⟩, box B10 [.int .i64 (((Tier.access t key).1).near), .int .i64 (((Tier.access t key).1).far), .slice a4 (((Tier.access t key).1).first).length c5, .slice a6 (((Tier.access t key).1).rest).length c7] 43, ⟨S2, fun w => SlR tInt S2 w a4 c5 (((Tier.access t key).1).first) ∧ SlR tInt S2 w a6 c7 (((Tier.access t key).1).rest)⟩, box B1 [.int .i64 t.near, .int .i64 t.far, .slice at_0 t.first.length ct_0, .slice at_1 t.rest.length ct_1] 43, base w0]) (fun w hw => HeapIs.toLoose (i := 1) (T := tInt) rfl hw) ?_
            refine q_heap (H' := [box B50_10 [.int .i64 (((Tier.touch rr (l[i])).1).near), .int .i64 (((Tier.touch rr (l[i])).1).far), .slice a50_5 (((Tier.touch rr (l[i])).1).first).length c50_5, .slice a50_5_1 (((Tier.touch rr (l[i])).1).rest).length c50_5_1] 43, loose tInt (a50_5 = at_0 ∧ c50_5 = ct_0 ∧ (((Tier.touch rr (l[i])).1).first) = t.first) S50_5 a50_5 c50_5 (((Tier.touch rr (l[i])).1).first), loose tInt (a50_5_1 = at_1 ∧ c50_5_1 = ct_1 ∧ (((Tier.touch rr (l[i])).1).rest) = t.rest) S50_5_1 a50_5_1 c50_5_1 (((Tier.touch rr (l[i])).1).rest), loose tInt (arr_1 = at_1 ∧ crr_1 = ct_1 ∧ rr.rest = t.rest) Srr_1 arr_1 crr_1 rr.rest, loose tInt (arr_0 = at_0 ∧ crr_0 = ct_0 ∧ rr.first = t.first) Srr_0 arr_0 crr_0 rr.first, loose tInt (False) Stc_1 atc_1 ctc_1 tc.rest, loose tInt (False) Stc_0 atc_0 ctc_0 tc.first, box B28 [.int .i64 0, .slice none 0 0] 48, box B27 [.int .i64 (((Tier.touch rr (l[i])).1).near), .int .i64 (((Tier.touch rr (l[i])).1).far), .slice a50_5 (((Tier.touch rr (l[i])).1).first).length c50_5, .slice a50_5_1 (((Tier.touch rr (l[i])).1).rest).length c50_5_1] 43, box B26 [.int .i64 tc.near, .int .i64 tc.far, .slice atc_0 tc.first.length ctc_0, .slice atc_1 tc.rest.length ctc_1] 43, box B25 [.int .i64 ((Tier.merged t).room), .slice a22 ((Tier.merged t).keys).length c23] 48, own tInt S20 a22 c23 ((Tier.merged t).keys), box B19 [.int .i64 (((Tier.run t l).1).near), .int .i64 (((Tier.run t l).1).far), .slice a13 (((Tier.run t l).1).first).length c14, .slice a15 (((Tier.run t l).1).rest).length c16] 43, ⟨S11, fun w => SlR tInt S11 w a13 c14 (((Tier.run t l).1).first) ∧ SlR tInt S11 w a15 c16 (((Tier.run t l).1).rest)⟩, box B10 [.int .i64 (((Tier.access t key).1).near), .int .i64 (((Tier.access t key).1).far), .slice a4 (((Tier.access t key).1).first).length c5, .slice a6 (((Tier.access t key).1).rest).length c7] 43, ⟨S2, fun w => SlR tInt S2 w a4 c5 (((Tier.access t key).1).first) ∧ SlR tInt S2 w a6 c7 (((Tier.access t key).1).rest)⟩, box B1 [.int .i64 t.near, .int .i64 t.far, .slice at_0 t.first.length ct_0, .slice at_1 t.rest.length ct_1] 43, base w0]) (fun w hw => HeapIs.toLoose (i := 2) (T := tInt) rfl hw) ?_
            refine q_round hK48 (one, two, i + 1, ((Tier.touch rr (l[i])).1), a50_5, c50_5, S50_5, a50_5_1, c50_5_1, S50_5_1) ?_ ?_ ?_ ?_
            · clear hK48
              first | (exfalso; omega) | exact hI.next (by omega) (by rw [if_pos (by assumption)]) (by rw [if_neg (by omega)]) | exact hI.next (by omega) (by rw [if_neg (by omega)]) (by rw [if_pos (by assumption)]) | exact hI.next (by omega) (by rw [if_neg (by omega)]) (by rw [if_neg (by omega)])
            · (try dsimp only); omega
            · exact Sub.cons rfl (Sub.cons rfl (Sub.cons rfl (Sub.cons rfl (Sub.cons rfl (Sub.cons rfl (Sub.cons rfl (Sub.cons rfl (Sub.cons rfl (Sub.cons rfl (Sub.cons rfl (Sub.cons rfl (Sub.cons rfl (Sub.cons rfl (Sub.cons rfl (Sub.cons rfl (Sub.cons rfl (Sub.cons rfl (Sub.cons rfl (Sub.cons rfl (Sub.cons rfl (Sub.cons rfl (Sub.cons rfl (Sub.nil _)))))))))))))))))))))))
            · exact fun _ hw => HeapIs.pick hw [2, 1, 5, 6, 7, 8, 9, 10, 11, 12, 13, 14, 15, 16, 17] (by decide) rfl
      · simp only [decide_eq_false_iff_not, Int.not_lt] at hc49
        refine c_exit ?_
        refine q_then_exit (q_then_exit (q_block_exit (q_then ?_)))
        refine c_held hmix [loose tInt (arr_1 = at_1 ∧ crr_1 = ct_1 ∧ rr.rest = t.rest) Srr_1 arr_1 crr_1 rr.rest, loose tInt (arr_0 = at_0 ∧ crr_0 = ct_0 ∧ rr.first = t.first) Srr_0 arr_0 crr_0 rr.first, loose tInt (False) Stc_1 atc_1 ctc_1 tc.rest, loose tInt (False) Stc_0 atc_0 ctc_0 tc.first, box B27 [.int .i64 rr.near, .int .i64 rr.far, .slice arr_0 rr.first.length crr_0, .slice arr_1 rr.rest.length crr_1] 43, box B26 [.int .i64 tc.near, .int .i64 tc.far, .slice atc_0 tc.first.length ctc_0, .slice atc_1 tc.rest.length ctc_1] 43, box B25 [.int .i64 ((Tier.merged t).room), .slice a22 ((Tier.merged t).keys).length c23] 48, own tInt S20 a22 c23 ((Tier.merged t).keys), box B19 [.int .i64 (((Tier.run t l).1).near), .int .i64 (((Tier.run t l).1).far), .slice a13 (((Tier.run t l).1).first).length c14, .slice a15 (((Tier.run t l).1).rest).length c16] 43, ⟨S11, fun w => SlR tInt S11 w a13 c14 (((Tier.run t l).1).first) ∧ SlR tInt S11 w a15 c16 (((Tier.run t l).1).rest)⟩, box B10 [.int .i64 (((Tier.access t key).1).near), .int .i64 (((Tier.access t key).1).far), .slice a4 (((Tier.access t key).1).first).length c5, .slice a6 (((Tier.access t key).1).rest).length c7] 43, ⟨S2, fun w => SlR tInt S2 w a4 c5 (((Tier.access t key).1).first) ∧ SlR tInt S2 w a6 c7 (((Tier.access t key).1).rest)⟩, box B1 [.int .i64 t.near, .int .i64 t.far, .slice at_0 t.first.length ct_0, .slice at_1 t.rest.length ct_1] 43, base w0] rfl rfl ?_
        refine h_take (i := 0) (ls := #[true, false, false, false, false, false, false, false, false, false, false, false, false, false]) rfl (by kernel_rfl) (by kernel_rfl) (by kernel_rfl) (fun _ _ _ h => h) (p_fieldAddr (B := B1) (j := 0) (j' := 0) rfl fo43_0 rfl) rfl rfl rfl (fun _ hw => HeapIs.drop hw (List.Sublist.cons_cons _ (List.Sublist.cons_cons _ (List.Sublist.cons_cons _ (List.Sublist.cons_cons _ (List.Sublist.cons _ (List.Sublist.cons_cons _ (List.Sublist.cons_cons _ (List.Sublist.cons_cons _ (List.Sublist.cons_cons _ (List.Sublist.cons_cons _ (List.Sublist.cons_cons _ (List.Sublist.cons_cons _ (List.Sublist.cons_cons _ (List.Sublist.cons_cons _ (List.Sublist.cons_cons _ (List.Sublist.slnil))))))))))))))))) rfl ?_
        refine h_take (i := 1) (ls := #[true, true, false, false, false, false, false, false, false, false, false, false, false, false]) rfl (by kernel_rfl) (by kernel_rfl) (by kernel_rfl) (fun _ _ _ h => h) (p_load (i := 12) (v := .int .i64 t.near) rfl rfl sh3 rfl) rfl rfl rfl (fun _ hw => HeapIs.drop hw (List.Sublist.cons_cons _ (List.Sublist.cons_cons _ (List.Sublist.cons_cons _ (List.Sublist.cons_cons _ (List.Sublist.cons _ (List.Sublist.cons_cons _ (List.Sublist.cons_cons _ (List.Sublist.cons_cons _ (List.Sublist.cons_cons _ (List.Sublist.cons_cons _ (List.Sublist.cons_cons _ (List.Sublist.cons_cons _ (List.Sublist.cons_cons _ (List.Sublist.cons_cons _ (List.Sublist.cons_cons _ (List.Sublist.slnil))))))))))))))))) rfl ?_
        refine h_take (i := 2) (ls := #[true, true, true, false, false, false, false, false, false, false, false, false, false, false]) rfl (by kernel_rfl) (by kernel_rfl) (by kernel_rfl) (fun _ _ _ h => h) (p_fieldAddr (B := B1) (j := 0) (j' := 1) rfl fo43_1 rfl) rfl rfl rfl (fun _ hw => HeapIs.drop hw (List.Sublist.cons_cons _ (List.Sublist.cons_cons _ (List.Sublist.cons_cons _ (List.Sublist.cons_cons _ (List.Sublist.cons _ (List.Sublist.cons_cons _ (List.Sublist.cons_cons _ (List.Sublist.cons_cons _ (List.Sublist.cons_cons _ (List.Sublist.cons_cons _ (List.Sublist.cons_cons _ (List.Sublist.cons_cons _ (List.Sublist.cons_cons _ (List.Sublist.cons_cons _ (List.Sublist.cons_cons _ (List.Sublist.slnil))))))))))))))))) rfl ?_
        refine h_take (i := 3) (ls := #[true, true, true, true, false, false, false, false, false, false, false, false, false, false]) rfl (by kernel_rfl) (by kernel_rfl) (by kernel_rfl) (fun _ _ _ h => h) (p_load (i := 12) (v := .int .i64 t.far) rfl rfl sh3 rfl) rfl rfl rfl (fun _ hw => HeapIs.drop hw (List.Sublist.cons_cons _ (List.Sublist.cons_cons _ (List.Sublist.cons_cons _ (List.Sublist.cons_cons _ (List.Sublist.cons _ (List.Sublist.cons_cons _ (List.Sublist.cons_cons _ (List.Sublist.cons_cons _ (List.Sublist.cons_cons _ (List.Sublist.cons_cons _ (List.Sublist.cons_cons _ (List.Sublist.cons_cons _ (List.Sublist.cons_cons _ (List.Sublist.cons_cons _ (List.Sublist.cons_cons _ (List.Sublist.slnil))))))))))))))))) rfl ?_
        refine h_take (i := 4) (ls := #[true, true, true, true, true, false, false, false, false, false, false, false, false, false]) rfl (by kernel_rfl) (by kernel_rfl) (by kernel_rfl) (fun _ _ _ h => h) (p_addb (p := t.near) (q := t.far) rfl rfl (by omega)) rfl rfl rfl (fun _ hw => HeapIs.drop hw (List.Sublist.cons_cons _ (List.Sublist.cons_cons _ (List.Sublist.cons_cons _ (List.Sublist.cons_cons _ (List.Sublist.cons _ (List.Sublist.cons_cons _ (List.Sublist.cons_cons _ (List.Sublist.cons_cons _ (List.Sublist.cons_cons _ (List.Sublist.cons_cons _ (List.Sublist.cons_cons _ (List.Sublist.cons_cons _ (List.Sublist.cons_cons _ (List.Sublist.cons_cons _ (List.Sublist.cons_cons _ (List.Sublist.slnil))))))))))))))))) rfl ?_
        refine h_take (i := 6) (ls := #[true, true, true, true, true, false, true, false, false, false, false, false, false, false]) rfl (by kernel_rfl) (by kernel_rfl) (by kernel_rfl) (fun _ _ _ h => h) (p_fieldAddr (B := B1) (j := 0) (j' := 2) rfl fo43_2 rfl) rfl rfl rfl (fun _ hw => HeapIs.drop hw (List.Sublist.cons_cons _ (List.Sublist.cons_cons _ (List.Sublist.cons_cons _ (List.Sublist.cons_cons _ (List.Sublist.cons _ (List.Sublist.cons_cons _ (List.Sublist.cons_cons _ (List.Sublist.cons_cons _ (List.Sublist.cons_cons _ (List.Sublist.cons_cons _ (List.Sublist.cons_cons _ (List.Sublist.cons_cons _ (List.Sublist.cons_cons _ (List.Sublist.cons_cons _ (List.Sublist.cons_cons _ (List.Sublist.slnil))))))))))))))))) rfl ?_
        refine h_take (i := 7) (ls := #[true, true, true, true, true, false, true, true, false, false, false, false, false, false]) rfl (by kernel_rfl) (by kernel_rfl) (by kernel_rfl) (fun _ _ _ h => h) (p_load (i := 12) (v := .slice at_0 t.first.length ct_0) rfl rfl sh23 rfl) rfl rfl rfl (fun _ hw => HeapIs.drop hw (List.Sublist.cons_cons _ (List.Sublist.cons_cons _ (List.Sublist.cons_cons _ (List.Sublist.cons_cons _ (List.Sublist.cons _ (List.Sublist.cons_cons _ (List.Sublist.cons_cons _ (List.Sublist.cons_cons _ (List.Sublist.cons_cons _ (List.Sublist.cons_cons _ (List.Sublist.cons_cons _ (List.Sublist.cons_cons _ (List.Sublist.cons_cons _ (List.Sublist.cons_cons _ (List.Sublist.cons_cons _ (List.Sublist.slnil))))))))))))))))) rfl ?_
        refine h_take (i := 9) (ls := #[true, true, true, true, true, false, true, true, false, true, false, false, false, false]) rfl (by kernel_rfl) (by kernel_rfl) (by kernel_rfl) (fun _ _ _ h => h) (p_fieldAddr (B := B1) (j := 0) (j' := 3) rfl fo43_3 rfl) rfl rfl rfl (fun _ hw => HeapIs.drop hw (List.Sublist.cons_cons _ (List.Sublist.cons_cons _ (List.Sublist.cons_cons _ (List.Sublist.cons_cons _ (List.Sublist.cons _ (List.Sublist.cons_cons _ (List.Sublist.cons_cons _ (List.Sublist.cons_cons _ (List.Sublist.cons_cons _ (List.Sublist.cons_cons _ (List.Sublist.cons_cons _ (List.Sublist.cons_cons _ (List.Sublist.cons_cons _ (List.Sublist.cons_cons _ (List.Sublist.cons_cons _ (List.Sublist.slnil))))))))))))))))) rfl ?_
        refine h_take (i := 10) (ls := #[true, true, true, true, true, false, true, true, false, true, true, false, false, false]) rfl (by kernel_rfl) (by kernel_rfl) (by kernel_rfl) (fun _ _ _ h => h) (p_load (i := 12) (v := .slice at_1 t.rest.length ct_1) rfl rfl sh23 rfl) rfl rfl rfl (fun _ hw => HeapIs.drop hw (List.Sublist.cons_cons _ (List.Sublist.cons_cons _ (List.Sublist.cons_cons _ (List.Sublist.cons_cons _ (List.Sublist.cons _ (List.Sublist.cons_cons _ (List.Sublist.cons_cons _ (List.Sublist.cons_cons _ (List.Sublist.cons_cons _ (List.Sublist.cons_cons _ (List.Sublist.cons_cons _ (List.Sublist.cons_cons _ (List.Sublist.cons_cons _ (List.Sublist.cons_cons _ (List.Sublist.cons_cons _ (List.Sublist.slnil))))))))))))))))) rfl ?_
        refine h_one (i := 5) (ls := #[true, true, true, true, true, true, true, true, false, true, true, false, false, false]) (by kernel_rfl) rfl rfl ?_
        refine o_buildSlice (m := 0) (T := tInt) (L := []) (vs := []) rfl rfl rfl rfl Try.underlying23 sz3 (by decide) ze3 rfl (by decide) rfl (fun S57_5 a57_5 => ?_)
        refine o_nil ?_
        refine h_next (fun _ hw => HeapIs.drop hw (List.Sublist.cons _ (List.Sublist.cons_cons _ (List.Sublist.cons_cons _ (List.Sublist.cons_cons _ (List.Sublist.cons_cons _ (List.Sublist.cons _ (List.Sublist.cons_cons _ (List.Sublist.cons_cons _ (List.Sublist.cons_cons _ (List.Sublist.cons_cons _ (List.Sublist.cons_cons _ (List.Sublist.cons_cons _ (List.Sublist.cons_cons _ (List.Sublist.cons_cons _ (List.Sublist.cons_cons _ (List.Sublist.cons_cons _ (List.Sublist.slnil)))))))))))))))))) ?_
        refine h_one (i := 8) (ls := #[true, true, true, true, true, true, true, true, true, true, true, false, false, false]) (by kernel_rfl) rfl rfl ?_
        refine o_append (i := 0) (L := []) (M := t.first) (T := tInt) rfl rfl rfl (rd_base (i := 15) rfl ht_0) Try.underlying23 Try.underlying23 (by intro k h; cases h) el3 (by intro z; simp [tInt, one1]) (by decide) (by first | omega | (simp only [List.length_cons, List.length_nil]; omega) | (simp only [List.length_append, List.length_cons, List.length_nil, List.length_take, List.length_drop]; omega)) rfl (fun a57_8 c57_8 S57_8 => ?_)
        refine o_nil ?_
        refine h_next (fun _ hw => HeapIs.drop hw (List.Sublist.cons _ (List.Sublist.cons_cons _ (List.Sublist.cons_cons _ (List.Sublist.cons_cons _ (List.Sublist.cons_cons _ (List.Sublist.cons _ (List.Sublist.cons_cons _ (List.Sublist.cons_cons _ (List.Sublist.cons_cons _ (List.Sublist.cons_cons _ (List.Sublist.cons_cons _ (List.Sublist.cons_cons _ (List.Sublist.cons_cons _ (List.Sublist.cons_cons _ (List.Sublist.cons_cons _ (List.Sublist.cons_cons _ (List.Sublist.slnil)))))))))))))))))) ?_
        refine h_one (i := 11) (ls := #[true, true, true, true, true, true, true, true, true, true, true, true, false, false]) (by kernel_rfl) rfl rfl ?_
        refine o_append (i := 0) (L := t.first) (M := t.rest) (T := tInt) rfl rfl rfl (rd_base (i := 15) rfl ht_1) Try.underlying23 Try.underlying23 (by intro k h; cases h) el3 (by intro z; simp [tInt, one1]) (by decide) (by first | omega | (simp only [List.length_cons, List.length_nil]; omega) | (simp only [List.length_append, List.length_cons, List.length_nil, List.length_take, List.length_drop]; omega)) rfl (fun a57_11 c57_11 S57_11 => ?_)
        refine o_nil ?_
        refine h_next (fun _ hw => HeapIs.drop hw (List.Sublist.cons _ (List.Sublist.cons_cons _ (List.Sublist.cons_cons _ (List.Sublist.cons_cons _ (List.Sublist.cons_cons _ (List.Sublist.cons _ (List.Sublist.cons_cons _ (List.Sublist.cons_cons _ (List.Sublist.cons_cons _ (List.Sublist.cons_cons _ (List.Sublist.cons_cons _ (List.Sublist.cons_cons _ (List.Sublist.cons_cons _ (List.Sublist.cons_cons _ (List.Sublist.cons_cons _ (List.Sublist.cons_cons _ (List.Sublist.slnil)))))))))))))))))) ?_
        refine h_take (i := 12) (ls := #[true, true, true, true, true, true, true, true, true, true, true, true, true, false]) rfl (by kernel_rfl) (by kernel_rfl) (by kernel_rfl) (fun _ _ _ h => h) (p_build (cells := [.int .i64 (t.near + t.far), .slice a57_11 (t.first ++ t.rest).length c57_11]) fp48 ze48 rfl rfl) rfl rfl rfl (fun _ hw => HeapIs.drop hw (List.Sublist.cons _ (List.Sublist.cons_cons _ (List.Sublist.cons_cons _ (List.Sublist.cons_cons _ (List.Sublist.cons_cons _ (List.Sublist.cons _ (List.Sublist.cons_cons _ (List.Sublist.cons_cons _ (List.Sublist.cons_cons _ (List.Sublist.cons_cons _ (List.Sublist.cons_cons _ (List.Sublist.cons_cons _ (List.Sublist.cons_cons _ (List.Sublist.cons_cons _ (List.Sublist.cons_cons _ (List.Sublist.cons_cons _ (List.Sublist.slnil)))))))))))))))))) rfl ?_
        refine h_one (i := 13) (ls := #[true, true, true, true, true, true, true, true, true, true, true, true, true, true]) (by kernel_rfl) rfl rfl ?_
        refine o_storeN (i := 5) (vs := [.int .i64 (t.near + t.far), .slice a57_11 (t.first ++ t.rest).length c57_11]) (cs' := [.int .i64 (t.near + t.far), .slice a57_11 (t.first ++ t.rest).length c57_11]) rfl rfl rfl sz48 rfl rfl rfl rfl ?_
        refine o_nil ?_
        refine h_next (fun _ hw => HeapIs.drop hw (List.Sublist.cons _ (List.Sublist.cons_cons _ (List.Sublist.cons_cons _ (List.Sublist.cons_cons _ (List.Sublist.cons_cons _ (List.Sublist.cons _ (List.Sublist.cons_cons _ (List.Sublist.cons_cons _ (List.Sublist.cons_cons _ (List.Sublist.cons_cons _ (List.Sublist.cons_cons _ (List.Sublist.cons_cons _ (List.Sublist.cons_cons _ (List.Sublist.cons_cons _ (List.Sublist.cons_cons _ (List.Sublist.cons_cons _ (List.Sublist.slnil)))))))))))))))))) ?_
        refine h_done (by kernel_rfl) ?_
        refine q_then ?_
        refine c_seq ?_
        refine c_region ?_
        refine o_call0 (v := .bool true) rfl (tierBegun_ok ) hf33 (fun _ _ => trivial) rfl ?_
        refine o_pure (p_move (v := .bool true) rfl) rfl rfl rfl ?_
        refine o_unguard 115 rfl rfl ?_
        refine o_pure (p_load_agg (i := 14) (vs := [.int .i64 t.near, .int .i64 t.far, .slice at_0 t.first.length ct_0, .slice at_1 t.rest.length ct_1]) rfl rfl sh43 rfl rfl) rfl rfl rfl ?_
        refine o_unguard 115 rfl rfl ?_
        refine o_call0 (v := .int .i64 (Tier.check t)) rfl (tcheck_ok t at_0 ct_0 at_1 ct_1) hf34 (fun w hw => ⟨(rd_base (i := 15) rfl ht_0) w hw, (rd_base (i := 15) rfl ht_1) w hw⟩) rfl ?_
        refine o_unguard 115 rfl rfl ?_
        refine o_pure (p_move (v := .int .i64 (Tier.check t)) rfl) rfl rfl rfl ?_
        refine o_unguard 115 rfl rfl ?_
        refine o_pure (p_eq (p := (Tier.check t)) (q := (Tier.check t)) rfl rfl) rfl rfl rfl ?_
        refine o_pure (p_pick_true (u := .bool ((Tier.check t) == (Tier.check t))) rfl rfl) rfl rfl rfl ?_
        refine o_pure (p_move (v := .bool ((Tier.check t) == (Tier.check t))) rfl) rfl rfl rfl ?_
        refine o_and (p := 125) 4 (decide (((Tier.access t key).1) = tc)) ?_ ?_ ?_
        · intro hb58 hk
          simp only [beq_iff_eq] at hb58
          refine o_unguard 121 rfl rfl ?_
          refine o_pure (p_load_agg (i := 12) (vs := [.int .i64 (((Tier.access t key).1).near), .int .i64 (((Tier.access t key).1).far), .slice a4 (((Tier.access t key).1).first).length c5, .slice a6 (((Tier.access t key).1).rest).length c7]) rfl rfl sh43 rfl rfl) rfl rfl rfl ?_
          refine o_unguard 121 rfl rfl ?_
          refine o_pure (p_load_agg (i := 7) (vs := [.int .i64 tc.near, .int .i64 tc.far, .slice atc_0 tc.first.length ctc_0, .slice atc_1 tc.rest.length ctc_1]) rfl rfl sh43 rfl rfl) rfl rfl rfl ?_
          refine o_unguard 121 rfl rfl ?_
          refine o_call0 (v := .bool (decide (((Tier.access t key).1) = tc))) rfl (sameTiers_ok ((Tier.access t key).1) a4 c5 a6 c7 tc atc_0 ctc_0 atc_1 ctc_1) hf35 (fun w hw => ⟨(rd_ent (i := 13) rfl (fun w h => h.1)) w hw, (rd_ent (i := 13) rfl (fun w h => h.2)) w hw, (rd_loose (i := 4) rfl (fun hφ => hφ.elim)) w hw, (rd_loose (i := 3) rfl (fun hφ => hφ.elim)) w hw⟩) rfl ?_
          refine o_pure (p_pick_true (u := .bool (decide (((Tier.access t key).1) = tc))) rfl rfl) rfl rfl rfl ?_
          exact o_sub (Sub.cons rfl (Sub.skip rfl (Sub.skip rfl (Sub.skip rfl (Sub.skip rfl (Sub.skip rfl (Sub.refl _))))))) hk
        · intro hb58 hk
          refine o_guard_no rfl 121 rfl rfl rfl rfl rfl ?_
          refine o_guard_no rfl 121 rfl rfl rfl rfl rfl ?_
          refine o_guard_no rfl 121 rfl rfl rfl rfl rfl ?_
          refine o_pure (p_pick_false (v := .bool false) rfl rfl) rfl rfl rfl ?_
          exact o_sub (Sub.cons rfl (Sub.skip rfl (Sub.skip rfl (Sub.skip rfl (Sub.skip rfl (Sub.skip rfl (Sub.refl _))))))) hk
        refine o_pure (p_move (v := .bool (((Tier.check t) == (Tier.check t)) && (decide (((Tier.access t key).1) = tc)))) rfl) rfl rfl rfl ?_
        refine o_and (p := 130) 4 (((Tier.access t key).2.1) == wh) ?_ ?_ ?_
        · intro hb59 hk
          simp only [Bool.and_eq_true, beq_iff_eq, decide_eq_true_eq] at hb59
          refine o_unguard 126 rfl rfl ?_
          refine o_pure (p_move (v := .int .i64 ((Tier.access t key).2.1)) rfl) rfl rfl rfl ?_
          refine o_unguard 126 rfl rfl ?_
          refine o_pure (p_move (v := .int .i64 wh) rfl) rfl rfl rfl ?_
          refine o_unguard 126 rfl rfl ?_
          refine o_pure (p_eq (p := ((Tier.access t key).2.1)) (q := wh) rfl rfl) rfl rfl rfl ?_
          refine o_pure (p_pick_true (u := .bool (((Tier.access t key).2.1) == wh)) rfl rfl) rfl rfl rfl ?_
          exact o_sub (Sub.cons rfl (Sub.skip rfl (Sub.skip rfl (Sub.skip rfl (Sub.skip rfl (Sub.skip rfl (Sub.refl _))))))) hk
        · intro hb59 hk
          refine o_guard_no rfl 126 rfl rfl rfl rfl rfl ?_
          refine o_guard_no rfl 126 rfl rfl rfl rfl rfl ?_
          refine o_guard_no rfl 126 rfl rfl rfl rfl rfl ?_
          refine o_pure (p_pick_false (v := .bool false) rfl rfl) rfl rfl rfl ?_
          exact o_sub (Sub.cons rfl (Sub.skip rfl (Sub.skip rfl (Sub.skip rfl (Sub.skip rfl (Sub.skip rfl (Sub.refl _))))))) hk
        refine o_pure (p_move (v := .bool ((((Tier.check t) == (Tier.check t)) && (decide (((Tier.access t key).1) = tc))) && (((Tier.access t key).2.1) == wh))) rfl) rfl rfl rfl ?_
        refine o_and (p := 135) 4 (((Tier.access t key).2.2) == less) ?_ ?_ ?_
        · intro hb60 hk
          simp only [Bool.and_eq_true, beq_iff_eq, decide_eq_true_eq] at hb60
          refine o_unguard 131 rfl rfl ?_
          refine o_pure (p_move (v := .int .i64 ((Tier.access t key).2.2)) rfl) rfl rfl rfl ?_
          refine o_unguard 131 rfl rfl ?_
          refine o_pure (p_move (v := .int .i64 less) rfl) rfl rfl rfl ?_
          refine o_unguard 131 rfl rfl ?_
          refine o_pure (p_eq (p := ((Tier.access t key).2.2)) (q := less) rfl rfl) rfl rfl rfl ?_
          refine o_pure (p_pick_true (u := .bool (((Tier.access t key).2.2) == less)) rfl rfl) rfl rfl rfl ?_
          exact o_sub (Sub.cons rfl (Sub.skip rfl (Sub.skip rfl (Sub.skip rfl (Sub.skip rfl (Sub.skip rfl (Sub.refl _))))))) hk
        · intro hb60 hk
          refine o_guard_no rfl 131 rfl rfl rfl rfl rfl ?_
          refine o_guard_no rfl 131 rfl rfl rfl rfl rfl ?_
          refine o_guard_no rfl 131 rfl rfl rfl rfl rfl ?_
          refine o_pure (p_pick_false (v := .bool false) rfl rfl) rfl rfl rfl ?_
          exact o_sub (Sub.cons rfl (Sub.skip rfl (Sub.skip rfl (Sub.skip rfl (Sub.skip rfl (Sub.skip rfl (Sub.refl _))))))) hk
        refine o_pure (p_move (v := .bool (((((Tier.check t) == (Tier.check t)) && (decide (((Tier.access t key).1) = tc))) && (((Tier.access t key).2.1) == wh)) && (((Tier.access t key).2.2) == less))) rfl) rfl rfl rfl ?_
        refine o_and (p := 140) 4 ((Tier.accessErr t key) == v) ?_ ?_ ?_
        · intro hb61 hk
          simp only [Bool.and_eq_true, beq_iff_eq, decide_eq_true_eq] at hb61
          refine o_unguard 136 rfl rfl ?_
          refine o_pure (p_move (v := .int .i64 (Tier.accessErr t key)) rfl) rfl rfl rfl ?_
          refine o_unguard 136 rfl rfl ?_
          refine o_pure (p_move (v := .int .i64 v) rfl) rfl rfl rfl ?_
          refine o_unguard 136 rfl rfl ?_
          refine o_pure (p_eq (p := (Tier.accessErr t key)) (q := v) rfl rfl) rfl rfl rfl ?_
          refine o_pure (p_pick_true (u := .bool ((Tier.accessErr t key) == v)) rfl rfl) rfl rfl rfl ?_
          exact o_sub (Sub.cons rfl (Sub.skip rfl (Sub.skip rfl (Sub.skip rfl (Sub.skip rfl (Sub.skip rfl (Sub.refl _))))))) hk
        · intro hb61 hk
          refine o_guard_no rfl 136 rfl rfl rfl rfl rfl ?_
          refine o_guard_no rfl 136 rfl rfl rfl rfl rfl ?_
          refine o_guard_no rfl 136 rfl rfl rfl rfl rfl ?_
          refine o_pure (p_pick_false (v := .bool false) rfl rfl) rfl rfl rfl ?_
          exact o_sub (Sub.cons rfl (Sub.skip rfl (Sub.skip rfl (Sub.skip rfl (Sub.skip rfl (Sub.skip rfl (Sub.refl _))))))) hk
        refine o_pure (p_move (v := .bool ((((((Tier.check t) == (Tier.check t)) && (decide (((Tier.access t key).1) = tc))) && (((Tier.access t key).2.1) == wh)) && (((Tier.access t key).2.2) == less)) && ((Tier.accessErr t key) == v))) rfl) rfl rfl rfl ?_
        refine o_and (p := 145) 4 (decide (((Tier.run t l).1) = rr)) ?_ ?_ ?_
        · intro hb62 hk
          simp only [Bool.and_eq_true, beq_iff_eq, decide_eq_true_eq] at hb62
          refine o_unguard 141 rfl rfl ?_
          refine o_pure (p_load_agg (i := 10) (vs := [.int .i64 (((Tier.run t l).1).near), .int .i64 (((Tier.run t l).1).far), .slice a13 (((Tier.run t l).1).first).length c14, .slice a15 (((Tier.run t l).1).rest).length c16]) rfl rfl sh43 rfl rfl) rfl rfl rfl ?_
          refine o_unguard 141 rfl rfl ?_
          refine o_pure (p_load_agg (i := 6) (vs := [.int .i64 rr.near, .int .i64 rr.far, .slice arr_0 rr.first.length crr_0, .slice arr_1 rr.rest.length crr_1]) rfl rfl sh43 rfl rfl) rfl rfl rfl ?_
          refine o_unguard 141 rfl rfl ?_
          refine o_call0 (v := .bool (decide (((Tier.run t l).1) = rr))) rfl (sameTiers_ok ((Tier.run t l).1) a13 c14 a15 c16 rr arr_0 crr_0 arr_1 crr_1) hf35 (fun w hw => ⟨(rd_ent (i := 11) rfl (fun w h => h.1)) w hw, (rd_ent (i := 11) rfl (fun w h => h.2)) w hw, (rd_loose (i := 2) rfl (fun hφ => by obtain ⟨h1, h2, h3⟩ := hφ; intro w hw; have g1 : arr_0 = at_0 := h1; have g2 : crr_0 = ct_0 := h2; have g3 : rr.first = t.first := h3; rw [g1, g2, g3]; exact (rd_base (i := 15) rfl ht_0) w hw)) w hw, (rd_loose (i := 1) rfl (fun hφ => by obtain ⟨h1, h2, h3⟩ := hφ; intro w hw; have g1 : arr_1 = at_1 := h1; have g2 : crr_1 = ct_1 := h2; have g3 : rr.rest = t.rest := h3; rw [g1, g2, g3]; exact (rd_base (i := 15) rfl ht_1) w hw)) w hw⟩) rfl ?_
          refine o_pure (p_pick_true (u := .bool (decide (((Tier.run t l).1) = rr))) rfl rfl) rfl rfl rfl ?_
          exact o_sub (Sub.cons rfl (Sub.skip rfl (Sub.skip rfl (Sub.skip rfl (Sub.skip rfl (Sub.skip rfl (Sub.refl _))))))) hk
        · intro hb62 hk
          refine o_guard_no rfl 141 rfl rfl rfl rfl rfl ?_
          refine o_guard_no rfl 141 rfl rfl rfl rfl rfl ?_
          refine o_guard_no rfl 141 rfl rfl rfl rfl rfl ?_
          refine o_pure (p_pick_false (v := .bool false) rfl rfl) rfl rfl rfl ?_
          exact o_sub (Sub.cons rfl (Sub.skip rfl (Sub.skip rfl (Sub.skip rfl (Sub.skip rfl (Sub.skip rfl (Sub.refl _))))))) hk
        refine o_pure (p_move (v := .bool (((((((Tier.check t) == (Tier.check t)) && (decide (((Tier.access t key).1) = tc))) && (((Tier.access t key).2.1) == wh)) && (((Tier.access t key).2.2) == less)) && ((Tier.accessErr t key) == v)) && (decide (((Tier.run t l).1) = rr)))) rfl) rfl rfl rfl ?_
        refine o_and (p := 150) 4 (((Tier.run t l).2.1) == one) ?_ ?_ ?_
        · intro hb63 hk
          simp only [Bool.and_eq_true, beq_iff_eq, decide_eq_true_eq] at hb63
          refine o_unguard 146 rfl rfl ?_
          refine o_pure (p_move (v := .int .i64 ((Tier.run t l).2.1)) rfl) rfl rfl rfl ?_
          refine o_unguard 146 rfl rfl ?_
          refine o_pure (p_move (v := .int .i64 one) rfl) rfl rfl rfl ?_
          refine o_unguard 146 rfl rfl ?_
          refine o_pure (p_eq (p := ((Tier.run t l).2.1)) (q := one) rfl rfl) rfl rfl rfl ?_
          refine o_pure (p_pick_true (u := .bool (((Tier.run t l).2.1) == one)) rfl rfl) rfl rfl rfl ?_
          exact o_sub (Sub.cons rfl (Sub.skip rfl (Sub.skip rfl (Sub.skip rfl (Sub.skip rfl (Sub.skip rfl (Sub.refl _))))))) hk
        · intro hb63 hk
          refine o_guard_no rfl 146 rfl rfl rfl rfl rfl ?_
          refine o_guard_no rfl 146 rfl rfl rfl rfl rfl ?_
          refine o_guard_no rfl 146 rfl rfl rfl rfl rfl ?_
          refine o_pure (p_pick_false (v := .bool false) rfl rfl) rfl rfl rfl ?_
          exact o_sub (Sub.cons rfl (Sub.skip rfl (Sub.skip rfl (Sub.skip rfl (Sub.skip rfl (Sub.skip rfl (Sub.refl _))))))) hk
        refine o_pure (p_move (v := .bool ((((((((Tier.check t) == (Tier.check t)) && (decide (((Tier.access t key).1) = tc))) && (((Tier.access t key).2.1) == wh)) && (((Tier.access t key).2.2) == less)) && ((Tier.accessErr t key) == v)) && (decide (((Tier.run t l).1) = rr))) && (((Tier.run t l).2.1) == one))) rfl) rfl rfl rfl ?_
        refine o_and (p := 155) 4 (((Tier.run t l).2.2) == two) ?_ ?_ ?_
        · intro hb64 hk
          simp only [Bool.and_eq_true, beq_iff_eq, decide_eq_true_eq] at hb64
          refine o_unguard 151 rfl rfl ?_
          refine o_pure (p_move (v := .int .i64 ((Tier.run t l).2.2)) rfl) rfl rfl rfl ?_
          refine o_unguard 151 rfl rfl ?_
          refine o_pure (p_move (v := .int .i64 two) rfl) rfl rfl rfl ?_
          refine o_unguard 151 rfl rfl ?_
          refine o_pure (p_eq (p := ((Tier.run t l).2.2)) (q := two) rfl rfl) rfl rfl rfl ?_
          refine o_pure (p_pick_true (u := .bool (((Tier.run t l).2.2) == two)) rfl rfl) rfl rfl rfl ?_
          exact o_sub (Sub.cons rfl (Sub.skip rfl (Sub.skip rfl (Sub.skip rfl (Sub.skip rfl (Sub.skip rfl (Sub.refl _))))))) hk
        · intro hb64 hk
          refine o_guard_no rfl 151 rfl rfl rfl rfl rfl ?_
          refine o_guard_no rfl 151 rfl rfl rfl rfl rfl ?_
          refine o_guard_no rfl 151 rfl rfl rfl rfl rfl ?_
          refine o_pure (p_pick_false (v := .bool false) rfl rfl) rfl rfl rfl ?_
          exact o_sub (Sub.cons rfl (Sub.skip rfl (Sub.skip rfl (Sub.skip rfl (Sub.skip rfl (Sub.skip rfl (Sub.refl _))))))) hk
        refine o_pure (p_move (v := .bool (((((((((Tier.check t) == (Tier.check t)) && (decide (((Tier.access t key).1) = tc))) && (((Tier.access t key).2.1) == wh)) && (((Tier.access t key).2.2) == less)) && ((Tier.accessErr t key) == v)) && (decide (((Tier.run t l).1) = rr))) && (((Tier.run t l).2.1) == one)) && (((Tier.run t l).2.2) == two))) rfl) rfl rfl rfl ?_
        refine o_and (p := 160) 4 ((Tier.runErr t l) == (Lru.trace l)) ?_ ?_ ?_
        · intro hb65 hk
          simp only [Bool.and_eq_true, beq_iff_eq, decide_eq_true_eq] at hb65
          refine o_unguard 156 rfl rfl ?_
          refine o_pure (p_move (v := .int .i64 (Tier.runErr t l)) rfl) rfl rfl rfl ?_
          refine o_unguard 156 rfl rfl ?_
          refine o_pure (p_move (v := .int .i64 (Lru.trace l)) rfl) rfl rfl rfl ?_
          refine o_unguard 156 rfl rfl ?_
          refine o_pure (p_eq (p := (Tier.runErr t l)) (q := (Lru.trace l)) rfl rfl) rfl rfl rfl ?_
          refine o_pure (p_pick_true (u := .bool ((Tier.runErr t l) == (Lru.trace l))) rfl rfl) rfl rfl rfl ?_
          exact o_sub (Sub.cons rfl (Sub.skip rfl (Sub.skip rfl (Sub.skip rfl (Sub.skip rfl (Sub.skip rfl (Sub.refl _))))))) hk
        · intro hb65 hk
          refine o_guard_no rfl 156 rfl rfl rfl rfl rfl ?_
          refine o_guard_no rfl 156 rfl rfl rfl rfl rfl ?_
          refine o_guard_no rfl 156 rfl rfl rfl rfl rfl ?_
          refine o_pure (p_pick_false (v := .bool false) rfl rfl) rfl rfl rfl ?_
          exact o_sub (Sub.cons rfl (Sub.skip rfl (Sub.skip rfl (Sub.skip rfl (Sub.skip rfl (Sub.skip rfl (Sub.refl _))))))) hk
        refine o_pure (p_move (v := .bool ((((((((((Tier.check t) == (Tier.check t)) && (decide (((Tier.access t key).1) = tc))) && (((Tier.access t key).2.1) == wh)) && (((Tier.access t key).2.2) == less)) && ((Tier.accessErr t key) == v)) && (decide (((Tier.run t l).1) = rr))) && (((Tier.run t l).2.1) == one)) && (((Tier.run t l).2.2) == two)) && ((Tier.runErr t l) == (Lru.trace l)))) rfl) rfl rfl rfl ?_
        refine o_and (p := 167) 6 ((Tier.merged t).room == (t.near + t.far)) ?_ ?_ ?_
        · intro hb66 hk
          simp only [Bool.and_eq_true, beq_iff_eq, decide_eq_true_eq] at hb66
          refine o_unguard 161 rfl rfl ?_
          refine o_pure (p_fieldAddr (B := B25) (j := 0) (j' := 0) rfl fo48_0 rfl) rfl rfl rfl ?_
          refine o_unguard 161 rfl rfl ?_
          refine o_pure (p_load (i := 8) (v := .int .i64 ((Tier.merged t).room)) rfl rfl sh3 rfl) rfl rfl rfl ?_
          refine o_unguard 161 rfl rfl ?_
          refine o_pure (p_fieldAddr (B := B28) (j := 0) (j' := 0) rfl fo48_0 rfl) rfl rfl rfl ?_
          refine o_unguard 161 rfl rfl ?_
          refine o_pure (p_load (i := 5) (v := .int .i64 (t.near + t.far)) rfl rfl sh3 rfl) rfl rfl rfl ?_
          refine o_unguard 161 rfl rfl ?_
          refine o_pure (p_eq (p := (Tier.merged t).room) (q := (t.near + t.far)) rfl rfl) rfl rfl rfl ?_
          refine o_pure (p_pick_true (u := .bool ((Tier.merged t).room == (t.near + t.far))) rfl rfl) rfl rfl rfl ?_
          exact o_sub (Sub.cons rfl (Sub.skip rfl (Sub.skip rfl (Sub.skip rfl (Sub.skip rfl (Sub.skip rfl (Sub.skip rfl (Sub.skip rfl (Sub.refl _))))))))) hk
        · intro hb66 hk
          refine o_guard_no rfl 161 rfl rfl rfl rfl rfl ?_
          refine o_guard_no rfl 161 rfl rfl rfl rfl rfl ?_
          refine o_guard_no rfl 161 rfl rfl rfl rfl rfl ?_
          refine o_guard_no rfl 161 rfl rfl rfl rfl rfl ?_
          refine o_guard_no rfl 161 rfl rfl rfl rfl rfl ?_
          refine o_pure (p_pick_false (v := .bool false) rfl rfl) rfl rfl rfl ?_
          exact o_sub (Sub.cons rfl (Sub.skip rfl (Sub.skip rfl (Sub.skip rfl (Sub.skip rfl (Sub.skip rfl (Sub.skip rfl (Sub.skip rfl (Sub.refl _))))))))) hk
        refine o_pure (p_move (v := .bool (((((((((((Tier.check t) == (Tier.check t)) && (decide (((Tier.access t key).1) = tc))) && (((Tier.access t key).2.1) == wh)) && (((Tier.access t key).2.2) == less)) && ((Tier.accessErr t key) == v)) && (decide (((Tier.run t l).1) = rr))) && (((Tier.run t l).2.1) == one)) && (((Tier.run t l).2.2) == two)) && ((Tier.runErr t l) == (Lru.trace l))) && ((Tier.merged t).room == (t.near + t.far)))) rfl) rfl rfl rfl ?_
        refine o_and (p := 174) 6 (Ref.sameInts ((Tier.merged t).keys) (t.first ++ t.rest)) ?_ ?_ ?_
        · intro hb67 hk
          simp only [Bool.and_eq_true, beq_iff_eq, decide_eq_true_eq] at hb67
          refine o_unguard 168 rfl rfl ?_
          refine o_pure (p_fieldAddr (B := B25) (j := 0) (j' := 1) rfl fo48_1 rfl) rfl rfl rfl ?_
          refine o_unguard 168 rfl rfl ?_
          refine o_pure (p_load (i := 8) (v := .slice a22 ((Tier.merged t).keys).length c23) rfl rfl sh23 rfl) rfl rfl rfl ?_
          refine o_unguard 168 rfl rfl ?_
          refine o_pure (p_fieldAddr (B := B28) (j := 0) (j' := 1) rfl fo48_1 rfl) rfl rfl rfl ?_
          refine o_unguard 168 rfl rfl ?_
          refine o_pure (p_load (i := 5) (v := .slice a57_11 (t.first ++ t.rest).length c57_11) rfl rfl sh23 rfl) rfl rfl rfl ?_
          refine o_unguard 168 rfl rfl ?_
          refine o_call0 (v := .bool (Ref.sameInts ((Tier.merged t).keys) (t.first ++ t.rest))) rfl (sameInts_ok ((Tier.merged t).keys) a22 c23 (t.first ++ t.rest) a57_11 c57_11) hf26 (fun w hw => ⟨(rd_own (i := 9) rfl) w hw, (rd_own (i := 0) rfl) w hw⟩) rfl ?_
          refine o_pure (p_pick_true (u := .bool (Ref.sameInts ((Tier.merged t).keys) (t.first ++ t.rest))) rfl rfl) rfl rfl rfl ?_
          exact o_sub (Sub.cons rfl (Sub.skip rfl (Sub.skip rfl (Sub.skip rfl (Sub.skip rfl (Sub.skip rfl (Sub.skip rfl (Sub.skip rfl (Sub.refl _))))))))) hk
        · intro hb67 hk
          refine o_guard_no rfl 168 rfl rfl rfl rfl rfl ?_
          refine o_guard_no rfl 168 rfl rfl rfl rfl rfl ?_
          refine o_guard_no rfl 168 rfl rfl rfl rfl rfl ?_
          refine o_guard_no rfl 168 rfl rfl rfl rfl rfl ?_
          refine o_guard_no rfl 168 rfl rfl rfl rfl rfl ?_
          refine o_pure (p_pick_false (v := .bool false) rfl rfl) rfl rfl rfl ?_
          exact o_sub (Sub.cons rfl (Sub.skip rfl (Sub.skip rfl (Sub.skip rfl (Sub.skip rfl (Sub.skip rfl (Sub.skip rfl (Sub.skip rfl (Sub.refl _))))))))) hk
        refine o_pure (p_move (v := .bool ((((((((((((Tier.check t) == (Tier.check t)) && (decide (((Tier.access t key).1) = tc))) && (((Tier.access t key).2.1) == wh)) && (((Tier.access t key).2.2) == less)) && ((Tier.accessErr t key) == v)) && (decide (((Tier.run t l).1) = rr))) && (((Tier.run t l).2.1) == one)) && (((Tier.run t l).2.2) == two)) && ((Tier.runErr t l) == (Lru.trace l))) && ((Tier.merged t).room == (t.near + t.far))) && (Ref.sameInts ((Tier.merged t).keys) (t.first ++ t.rest)))) rfl) rfl rfl rfl ?_
        refine o_and (p := 179) 4 ((Tier.check t) == (Tier.check t)) ?_ ?_ ?_
        · intro hb68 hk
          simp only [Bool.and_eq_true, beq_iff_eq, decide_eq_true_eq] at hb68
          refine o_unguard 175 rfl rfl ?_
          refine o_pure (p_move (v := .int .i64 (Tier.check t)) rfl) rfl rfl rfl ?_
          refine o_unguard 175 rfl rfl ?_
          refine o_pure (p_move (v := .int .i64 (Tier.check t)) rfl) rfl rfl rfl ?_
          refine o_unguard 175 rfl rfl ?_
          refine o_pure (p_eq (p := (Tier.check t)) (q := (Tier.check t)) rfl rfl) rfl rfl rfl ?_
          refine o_pure (p_pick_true (u := .bool ((Tier.check t) == (Tier.check t))) rfl rfl) rfl rfl rfl ?_
          exact o_sub (Sub.cons rfl (Sub.skip rfl (Sub.skip rfl (Sub.skip rfl (Sub.skip rfl (Sub.skip rfl (Sub.refl _))))))) hk
        · intro hb68 hk
          refine o_guard_no rfl 175 rfl rfl rfl rfl rfl ?_
          refine o_guard_no rfl 175 rfl rfl rfl rfl rfl ?_
          refine o_guard_no rfl 175 rfl rfl rfl rfl rfl ?_
          refine o_pure (p_pick_false (v := .bool false) rfl rfl) rfl rfl rfl ?_
          exact o_sub (Sub.cons rfl (Sub.skip rfl (Sub.skip rfl (Sub.skip rfl (Sub.skip rfl (Sub.skip rfl (Sub.refl _))))))) hk
        refine o_pure (p_assign (v := .bool (((((((((((((Tier.check t) == (Tier.check t)) && (decide (((Tier.access t key).1) = tc))) && (((Tier.access t key).2.1) == wh)) && (((Tier.access t key).2.2) == less)) && ((Tier.accessErr t key) == v)) && (decide (((Tier.run t l).1) = rr))) && (((Tier.run t l).2.1) == one)) && (((Tier.run t l).2.2) == two)) && ((Tier.runErr t l) == (Lru.trace l))) && ((Tier.merged t).room == (t.near + t.far))) && (Ref.sameInts ((Tier.merged t).keys) (t.first ++ t.rest))) && ((Tier.check t) == (Tier.check t)))) rfl) rfl rfl rfl ?_
        refine o_nil ?_
        refine q_then ?_
        refine c_ret ?_
        have hr0 : ((((((((((((((Tier.check t) == (Tier.check t)) && (decide (((Tier.access t key).1) = tc))) && (((Tier.access t key).2.1) == wh)) && (((Tier.access t key).2.2) == less)) && ((Tier.accessErr t key) == v)) && (decide (((Tier.run t l).1) = rr))) && (((Tier.run t l).2.1) == one)) && (((Tier.run t l).2.2) == two)) && ((Tier.runErr t l) == (Lru.trace l))) && ((Tier.merged t).room == (t.near + t.far))) && (Ref.sameInts ((Tier.merged t).keys) (t.first ++ t.rest))) && ((Tier.check t) == (Tier.check t))) : Bool) = true := by
          first | (obtain ⟨rfl, rfl, rfl, rfl⟩ := hj1; have hd := hI.done (by omega); simp [b1, b2, hm, hd, hck, htr, Tier.zero, Ref.sameInts]; done) | (obtain ⟨rfl, rfl, rfl, rfl⟩ := hj1; simp [b1, b2, hm, hck, Tier.zero, Ref.sameInts]; done) | (simp [a1, a2, b1, b2, hm, Tier.zero, Ref.sameInts]; done)
        refine q_end0 (v := .bool (((((((((((((Tier.check t) == (Tier.check t)) && (decide (((Tier.access t key).1) = tc))) && (((Tier.access t key).2.1) == wh)) && (((Tier.access t key).2.2) == less)) && ((Tier.accessErr t key) == v)) && (decide (((Tier.run t l).1) = rr))) && (((Tier.run t l).2.1) == one)) && (((Tier.run t l).2.2) == two)) && ((Tier.runErr t l) == (Lru.trace l))) && ((Tier.merged t).room == (t.near + t.far))) && (Ref.sameInts ((Tier.merged t).keys) (t.first ++ t.rest))) && ((Tier.check t) == (Tier.check t)))) (rt1 rfl (r_tmp rfl)) (i := 15) rfl ?_
        exact (by have hcc := congrArg (fun (y0 : Bool) => (.bool y0 : Value)) hr0; exact hcc)
    · simp only [beq_eq_false_iff_ne, ne_eq] at hc45
      obtain ⟨b1, b2⟩ := Tier.run2 hck hc45
      refine c_skip ?_
      refine q_then ?_
      refine c_held hmix [loose tInt (False) Stc_1 atc_1 ctc_1 tc.rest, loose tInt (False) Stc_0 atc_0 ctc_0 tc.first, box B27 [.int .i64 0, .int .i64 0, .slice none 0 0, .slice none 0 0] 43, box B26 [.int .i64 tc.near, .int .i64 tc.far, .slice atc_0 tc.first.length ctc_0, .slice atc_1 tc.rest.length ctc_1] 43, box B25 [.int .i64 ((Tier.merged t).room), .slice a22 ((Tier.merged t).keys).length c23] 48, own tInt S20 a22 c23 ((Tier.merged t).keys), box B19 [.int .i64 (((Tier.run t l).1).near), .int .i64 (((Tier.run t l).1).far), .slice a13 (((Tier.run t l).1).first).length c14, .slice a15 (((Tier.run t l).1).rest).length c16] 43, ⟨S11, fun w => SlR tInt S11 w a13 c14 (((Tier.run t l).1).first) ∧ SlR tInt S11 w a15 c16 (((Tier.run t l).1).rest)⟩, box B10 [.int .i64 (((Tier.access t key).1).near), .int .i64 (((Tier.access t key).1).far), .slice a4 (((Tier.access t key).1).first).length c5, .slice a6 (((Tier.access t key).1).rest).length c7] 43, ⟨S2, fun w => SlR tInt S2 w a4 c5 (((Tier.access t key).1).first) ∧ SlR tInt S2 w a6 c7 (((Tier.access t key).1).rest)⟩, box B1 [.int .i64 t.near, .int .i64 t.far, .slice at_0 t.first.length ct_0, .slice at_1 t.rest.length ct_1] 43, base w0] rfl rfl ?_
      refine h_take (i := 0) (ls := #[true, false, false, false, false, false, false, false, false, false, false, false, false, false]) rfl (by kernel_rfl) (by kernel_rfl) (by kernel_rfl) (fun _ _ _ h => h) (p_fieldAddr (B := B1) (j := 0) (j' := 0) rfl fo43_0 rfl) rfl rfl rfl (fun _ hw => HeapIs.drop hw (List.Sublist.cons_cons _ (List.Sublist.cons_cons _ (List.Sublist.cons _ (List.Sublist.cons_cons _ (List.Sublist.cons_cons _ (List.Sublist.cons_cons _ (List.Sublist.cons_cons _ (List.Sublist.cons_cons _ (List.Sublist.cons_cons _ (List.Sublist.cons_cons _ (List.Sublist.cons_cons _ (List.Sublist.cons_cons _ (List.Sublist.cons_cons _ (List.Sublist.slnil))))))))))))))) rfl ?_
      refine h_take (i := 1) (ls := #[true, true, false, false, false, false, false, false, false, false, false, false, false, false]) rfl (by kernel_rfl) (by kernel_rfl) (by kernel_rfl) (fun _ _ _ h => h) (p_load (i := 10) (v := .int .i64 t.near) rfl rfl sh3 rfl) rfl rfl rfl (fun _ hw => HeapIs.drop hw (List.Sublist.cons_cons _ (List.Sublist.cons_cons _ (List.Sublist.cons _ (List.Sublist.cons_cons _ (List.Sublist.cons_cons _ (List.Sublist.cons_cons _ (List.Sublist.cons_cons _ (List.Sublist.cons_cons _ (List.Sublist.cons_cons _ (List.Sublist.cons_cons _ (List.Sublist.cons_cons _ (List.Sublist.cons_cons _ (List.Sublist.cons_cons _ (List.Sublist.slnil))))))))))))))) rfl ?_
      refine h_take (i := 2) (ls := #[true, true, true, false, false, false, false, false, false, false, false, false, false, false]) rfl (by kernel_rfl) (by kernel_rfl) (by kernel_rfl) (fun _ _ _ h => h) (p_fieldAddr (B := B1) (j := 0) (j' := 1) rfl fo43_1 rfl) rfl rfl rfl (fun _ hw => HeapIs.drop hw (List.Sublist.cons_cons _ (List.Sublist.cons_cons _ (List.Sublist.cons _ (List.Sublist.cons_cons _ (List.Sublist.cons_cons _ (List.Sublist.cons_cons _ (List.Sublist.cons_cons _ (List.Sublist.cons_cons _ (List.Sublist.cons_cons _ (List.Sublist.cons_cons _ (List.Sublist.cons_cons _ (List.Sublist.cons_cons _ (List.Sublist.cons_cons _ (List.Sublist.slnil))))))))))))))) rfl ?_
      refine h_take (i := 3) (ls := #[true, true, true, true, false, false, false, false, false, false, false, false, false, false]) rfl (by kernel_rfl) (by kernel_rfl) (by kernel_rfl) (fun _ _ _ h => h) (p_load (i := 10) (v := .int .i64 t.far) rfl rfl sh3 rfl) rfl rfl rfl (fun _ hw => HeapIs.drop hw (List.Sublist.cons_cons _ (List.Sublist.cons_cons _ (List.Sublist.cons _ (List.Sublist.cons_cons _ (List.Sublist.cons_cons _ (List.Sublist.cons_cons _ (List.Sublist.cons_cons _ (List.Sublist.cons_cons _ (List.Sublist.cons_cons _ (List.Sublist.cons_cons _ (List.Sublist.cons_cons _ (List.Sublist.cons_cons _ (List.Sublist.cons_cons _ (List.Sublist.slnil))))))))))))))) rfl ?_
      refine h_take (i := 4) (ls := #[true, true, true, true, true, false, false, false, false, false, false, false, false, false]) rfl (by kernel_rfl) (by kernel_rfl) (by kernel_rfl) (fun _ _ _ h => h) (p_addb (p := t.near) (q := t.far) rfl rfl (by omega)) rfl rfl rfl (fun _ hw => HeapIs.drop hw (List.Sublist.cons_cons _ (List.Sublist.cons_cons _ (List.Sublist.cons _ (List.Sublist.cons_cons _ (List.Sublist.cons_cons _ (List.Sublist.cons_cons _ (List.Sublist.cons_cons _ (List.Sublist.cons_cons _ (List.Sublist.cons_cons _ (List.Sublist.cons_cons _ (List.Sublist.cons_cons _ (List.Sublist.cons_cons _ (List.Sublist.cons_cons _ (List.Sublist.slnil))))))))))))))) rfl ?_
      refine h_take (i := 6) (ls := #[true, true, true, true, true, false, true, false, false, false, false, false, false, false]) rfl (by kernel_rfl) (by kernel_rfl) (by kernel_rfl) (fun _ _ _ h => h) (p_fieldAddr (B := B1) (j := 0) (j' := 2) rfl fo43_2 rfl) rfl rfl rfl (fun _ hw => HeapIs.drop hw (List.Sublist.cons_cons _ (List.Sublist.cons_cons _ (List.Sublist.cons _ (List.Sublist.cons_cons _ (List.Sublist.cons_cons _ (List.Sublist.cons_cons _ (List.Sublist.cons_cons _ (List.Sublist.cons_cons _ (List.Sublist.cons_cons _ (List.Sublist.cons_cons _ (List.Sublist.cons_cons _ (List.Sublist.cons_cons _ (List.Sublist.cons_cons _ (List.Sublist.slnil))))))))))))))) rfl ?_
      refine h_take (i := 7) (ls := #[true, true, true, true, true, false, true, true, false, false, false, false, false, false]) rfl (by kernel_rfl) (by kernel_rfl) (by kernel_rfl) (fun _ _ _ h => h) (p_load (i := 10) (v := .slice at_0 t.first.length ct_0) rfl rfl sh23 rfl) rfl rfl rfl (fun _ hw => HeapIs.drop hw (List.Sublist.cons_cons _ (List.Sublist.cons_cons _ (List.Sublist.cons _ (List.Sublist.cons_cons _ (List.Sublist.cons_cons _ (List.Sublist.cons_cons _ (List.Sublist.cons_cons _ (List.Sublist.cons_cons _ (List.Sublist.cons_cons _ (List.Sublist.cons_cons _ (List.Sublist.cons_cons _ (List.Sublist.cons_cons _ (List.Sublist.cons_cons _ (List.Sublist.slnil))))))))))))))) rfl ?_
      refine h_take (i := 9) (ls := #[true, true, true, true, true, false, true, true, false, true, false, false, false, false]) rfl (by kernel_rfl) (by kernel_rfl) (by kernel_rfl) (fun _ _ _ h => h) (p_fieldAddr (B := B1) (j := 0) (j' := 3) rfl fo43_3 rfl) rfl rfl rfl (fun _ hw => HeapIs.drop hw (List.Sublist.cons_cons _ (List.Sublist.cons_cons _ (List.Sublist.cons _ (List.Sublist.cons_cons _ (List.Sublist.cons_cons _ (List.Sublist.cons_cons _ (List.Sublist.cons_cons _ (List.Sublist.cons_cons _ (List.Sublist.cons_cons _ (List.Sublist.cons_cons _ (List.Sublist.cons_cons _ (List.Sublist.cons_cons _ (List.Sublist.cons_cons _ (List.Sublist.slnil))))))))))))))) rfl ?_
      refine h_take (i := 10) (ls := #[true, true, true, true, true, false, true, true, false, true, true, false, false, false]) rfl (by kernel_rfl) (by kernel_rfl) (by kernel_rfl) (fun _ _ _ h => h) (p_load (i := 10) (v := .slice at_1 t.rest.length ct_1) rfl rfl sh23 rfl) rfl rfl rfl (fun _ hw => HeapIs.drop hw (List.Sublist.cons_cons _ (List.Sublist.cons_cons _ (List.Sublist.cons _ (List.Sublist.cons_cons _ (List.Sublist.cons_cons _ (List.Sublist.cons_cons _ (List.Sublist.cons_cons _ (List.Sublist.cons_cons _ (List.Sublist.cons_cons _ (List.Sublist.cons_cons _ (List.Sublist.cons_cons _ (List.Sublist.cons_cons _ (List.Sublist.cons_cons _ (List.Sublist.slnil))))))))))))))) rfl ?_
      refine h_one (i := 5) (ls := #[true, true, true, true, true, true, true, true, false, true, true, false, false, false]) (by kernel_rfl) rfl rfl ?_
      refine o_buildSlice (m := 0) (T := tInt) (L := []) (vs := []) rfl rfl rfl rfl Try.underlying23 sz3 (by decide) ze3 rfl (by decide) rfl (fun S69_5 a69_5 => ?_)
      refine o_nil ?_
      refine h_next (fun _ hw => HeapIs.drop hw (List.Sublist.cons _ (List.Sublist.cons_cons _ (List.Sublist.cons_cons _ (List.Sublist.cons _ (List.Sublist.cons_cons _ (List.Sublist.cons_cons _ (List.Sublist.cons_cons _ (List.Sublist.cons_cons _ (List.Sublist.cons_cons _ (List.Sublist.cons_cons _ (List.Sublist.cons_cons _ (List.Sublist.cons_cons _ (List.Sublist.cons_cons _ (List.Sublist.cons_cons _ (List.Sublist.slnil)))))))))))))))) ?_
      refine h_one (i := 8) (ls := #[true, true, true, true, true, true, true, true, true, true, true, false, false, false]) (by kernel_rfl) rfl rfl ?_
      refine o_append (i := 0) (L := []) (M := t.first) (T := tInt) rfl rfl rfl (rd_base (i := 13) rfl ht_0) Try.underlying23 Try.underlying23 (by intro k h; cases h) el3 (by intro z; simp [tInt, one1]) (by decide) (by first | omega | (simp only [List.length_cons, List.length_nil]; omega) | (simp only [List.length_append, List.length_cons, List.length_nil, List.length_take, List.length_drop]; omega)) rfl (fun a69_8 c69_8 S69_8 => ?_)
      refine o_nil ?_
      refine h_next (fun _ hw => HeapIs.drop hw (List.Sublist.cons _ (List.Sublist.cons_cons _ (List.Sublist.cons_cons _ (List.Sublist.cons _ (List.Sublist.cons_cons _ (List.Sublist.cons_cons _ (List.Sublist.cons_cons _ (List.Sublist.cons_cons _ (List.Sublist.cons_cons _ (List.Sublist.cons_cons _ (List.Sublist.cons_cons _ (List.Sublist.cons_cons _ (List.Sublist.cons_cons _ (List.Sublist.cons_cons _ (List.Sublist.slnil)))))))))))))))) ?_
      refine h_one (i := 11) (ls := #[true, true, true, true, true, true, true, true, true, true, true, true, false, false]) (by kernel_rfl) rfl rfl ?_
      refine o_append (i := 0) (L := t.first) (M := t.rest) (T := tInt) rfl rfl rfl (rd_base (i := 13) rfl ht_1) Try.underlying23 Try.underlying23 (by intro k h; cases h) el3 (by intro z; simp [tInt, one1]) (by decide) (by first | omega | (simp only [List.length_cons, List.length_nil]; omega) | (simp only [List.length_append, List.length_cons, List.length_nil, List.length_take, List.length_drop]; omega)) rfl (fun a69_11 c69_11 S69_11 => ?_)
      refine o_nil ?_
      refine h_next (fun _ hw => HeapIs.drop hw (List.Sublist.cons _ (List.Sublist.cons_cons _ (List.Sublist.cons_cons _ (List.Sublist.cons _ (List.Sublist.cons_cons _ (List.Sublist.cons_cons _ (List.Sublist.cons_cons _ (List.Sublist.cons_cons _ (List.Sublist.cons_cons _ (List.Sublist.cons_cons _ (List.Sublist.cons_cons _ (List.Sublist.cons_cons _ (List.Sublist.cons_cons _ (List.Sublist.cons_cons _ (List.Sublist.slnil)))))))))))))))) ?_
      refine h_take (i := 12) (ls := #[true, true, true, true, true, true, true, true, true, true, true, true, true, false]) rfl (by kernel_rfl) (by kernel_rfl) (by kernel_rfl) (fun _ _ _ h => h) (p_build (cells := [.int .i64 (t.near + t.far), .slice a69_11 (t.first ++ t.rest).length c69_11]) fp48 ze48 rfl rfl) rfl rfl rfl (fun _ hw => HeapIs.drop hw (List.Sublist.cons _ (List.Sublist.cons_cons _ (List.Sublist.cons_cons _ (List.Sublist.cons _ (List.Sublist.cons_cons _ (List.Sublist.cons_cons _ (List.Sublist.cons_cons _ (List.Sublist.cons_cons _ (List.Sublist.cons_cons _ (List.Sublist.cons_cons _ (List.Sublist.cons_cons _ (List.Sublist.cons_cons _ (List.Sublist.cons_cons _ (List.Sublist.cons_cons _ (List.Sublist.slnil)))))))))))))))) rfl ?_
      refine h_one (i := 13) (ls := #[true, true, true, true, true, true, true, true, true, true, true, true, true, true]) (by kernel_rfl) rfl rfl ?_
      refine o_storeN (i := 3) (vs := [.int .i64 (t.near + t.far), .slice a69_11 (t.first ++ t.rest).length c69_11]) (cs' := [.int .i64 (t.near + t.far), .slice a69_11 (t.first ++ t.rest).length c69_11]) rfl rfl rfl sz48 rfl rfl rfl rfl ?_
      refine o_nil ?_
      refine h_next (fun _ hw => HeapIs.drop hw (List.Sublist.cons _ (List.Sublist.cons_cons _ (List.Sublist.cons_cons _ (List.Sublist.cons _ (List.Sublist.cons_cons _ (List.Sublist.cons_cons _ (List.Sublist.cons_cons _ (List.Sublist.cons_cons _ (List.Sublist.cons_cons _ (List.Sublist.cons_cons _ (List.Sublist.cons_cons _ (List.Sublist.cons_cons _ (List.Sublist.cons_cons _ (List.Sublist.cons_cons _ (List.Sublist.slnil)))))))))))))))) ?_
      refine h_done (by kernel_rfl) ?_
      refine q_then ?_
      refine c_seq ?_
      refine c_region ?_
      refine o_call0 (v := .bool true) rfl (tierBegun_ok ) hf33 (fun _ _ => trivial) rfl ?_
      refine o_pure (p_move (v := .bool true) rfl) rfl rfl rfl ?_
      refine o_unguard 115 rfl rfl ?_
      refine o_pure (p_load_agg (i := 12) (vs := [.int .i64 t.near, .int .i64 t.far, .slice at_0 t.first.length ct_0, .slice at_1 t.rest.length ct_1]) rfl rfl sh43 rfl rfl) rfl rfl rfl ?_
      refine o_unguard 115 rfl rfl ?_
      refine o_call0 (v := .int .i64 (Tier.check t)) rfl (tcheck_ok t at_0 ct_0 at_1 ct_1) hf34 (fun w hw => ⟨(rd_base (i := 13) rfl ht_0) w hw, (rd_base (i := 13) rfl ht_1) w hw⟩) rfl ?_
      refine o_unguard 115 rfl rfl ?_
      refine o_pure (p_move (v := .int .i64 (Tier.check t)) rfl) rfl rfl rfl ?_
      refine o_unguard 115 rfl rfl ?_
      refine o_pure (p_eq (p := (Tier.check t)) (q := (Tier.check t)) rfl rfl) rfl rfl rfl ?_
      refine o_pure (p_pick_true (u := .bool ((Tier.check t) == (Tier.check t))) rfl rfl) rfl rfl rfl ?_
      refine o_pure (p_move (v := .bool ((Tier.check t) == (Tier.check t))) rfl) rfl rfl rfl ?_
      refine o_and (p := 125) 4 (decide (((Tier.access t key).1) = tc)) ?_ ?_ ?_
      · intro hb70 hk
        simp only [beq_iff_eq] at hb70
        refine o_unguard 121 rfl rfl ?_
        refine o_pure (p_load_agg (i := 10) (vs := [.int .i64 (((Tier.access t key).1).near), .int .i64 (((Tier.access t key).1).far), .slice a4 (((Tier.access t key).1).first).length c5, .slice a6 (((Tier.access t key).1).rest).length c7]) rfl rfl sh43 rfl rfl) rfl rfl rfl ?_
        refine o_unguard 121 rfl rfl ?_
        refine o_pure (p_load_agg (i := 5) (vs := [.int .i64 tc.near, .int .i64 tc.far, .slice atc_0 tc.first.length ctc_0, .slice atc_1 tc.rest.length ctc_1]) rfl rfl sh43 rfl rfl) rfl rfl rfl ?_
        refine o_unguard 121 rfl rfl ?_
        refine o_call0 (v := .bool (decide (((Tier.access t key).1) = tc))) rfl (sameTiers_ok ((Tier.access t key).1) a4 c5 a6 c7 tc atc_0 ctc_0 atc_1 ctc_1) hf35 (fun w hw => ⟨(rd_ent (i := 11) rfl (fun w h => h.1)) w hw, (rd_ent (i := 11) rfl (fun w h => h.2)) w hw, (rd_loose (i := 2) rfl (fun hφ => hφ.elim)) w hw, (rd_loose (i := 1) rfl (fun hφ => hφ.elim)) w hw⟩) rfl ?_
        refine o_pure (p_pick_true (u := .bool (decide (((Tier.access t key).1) = tc))) rfl rfl) rfl rfl rfl ?_
        exact o_sub (Sub.cons rfl (Sub.skip rfl (Sub.skip rfl (Sub.skip rfl (Sub.skip rfl (Sub.skip rfl (Sub.refl _))))))) hk
      · intro hb70 hk
        refine o_guard_no rfl 121 rfl rfl rfl rfl rfl ?_
        refine o_guard_no rfl 121 rfl rfl rfl rfl rfl ?_
        refine o_guard_no rfl 121 rfl rfl rfl rfl rfl ?_
        refine o_pure (p_pick_false (v := .bool false) rfl rfl) rfl rfl rfl ?_
        exact o_sub (Sub.cons rfl (Sub.skip rfl (Sub.skip rfl (Sub.skip rfl (Sub.skip rfl (Sub.skip rfl (Sub.refl _))))))) hk
      refine o_pure (p_move (v := .bool (((Tier.check t) == (Tier.check t)) && (decide (((Tier.access t key).1) = tc)))) rfl) rfl rfl rfl ?_
      refine o_and (p := 130) 4 (((Tier.access t key).2.1) == wh) ?_ ?_ ?_
      · intro hb71 hk
        simp only [Bool.and_eq_true, beq_iff_eq, decide_eq_true_eq] at hb71
        refine o_unguard 126 rfl rfl ?_
        refine o_pure (p_move (v := .int .i64 ((Tier.access t key).2.1)) rfl) rfl rfl rfl ?_
        refine o_unguard 126 rfl rfl ?_
        refine o_pure (p_move (v := .int .i64 wh) rfl) rfl rfl rfl ?_
        refine o_unguard 126 rfl rfl ?_
        refine o_pure (p_eq (p := ((Tier.access t key).2.1)) (q := wh) rfl rfl) rfl rfl rfl ?_
        refine o_pure (p_pick_true (u := .bool (((Tier.access t key).2.1) == wh)) rfl rfl) rfl rfl rfl ?_
        exact o_sub (Sub.cons rfl (Sub.skip rfl (Sub.skip rfl (Sub.skip rfl (Sub.skip rfl (Sub.skip rfl (Sub.refl _))))))) hk
      · intro hb71 hk
        refine o_guard_no rfl 126 rfl rfl rfl rfl rfl ?_
        refine o_guard_no rfl 126 rfl rfl rfl rfl rfl ?_
        refine o_guard_no rfl 126 rfl rfl rfl rfl rfl ?_
        refine o_pure (p_pick_false (v := .bool false) rfl rfl) rfl rfl rfl ?_
        exact o_sub (Sub.cons rfl (Sub.skip rfl (Sub.skip rfl (Sub.skip rfl (Sub.skip rfl (Sub.skip rfl (Sub.refl _))))))) hk
      refine o_pure (p_move (v := .bool ((((Tier.check t) == (Tier.check t)) && (decide (((Tier.access t key).1) = tc))) && (((Tier.access t key).2.1) == wh))) rfl) rfl rfl rfl ?_
      refine o_and (p := 135) 4 (((Tier.access t key).2.2) == less) ?_ ?_ ?_
      · intro hb72 hk
        simp only [Bool.and_eq_true, beq_iff_eq, decide_eq_true_eq] at hb72
        refine o_unguard 131 rfl rfl ?_
        refine o_pure (p_move (v := .int .i64 ((Tier.access t key).2.2)) rfl) rfl rfl rfl ?_
        refine o_unguard 131 rfl rfl ?_
        refine o_pure (p_move (v := .int .i64 less) rfl) rfl rfl rfl ?_
        refine o_unguard 131 rfl rfl ?_
        refine o_pure (p_eq (p := ((Tier.access t key).2.2)) (q := less) rfl rfl) rfl rfl rfl ?_
        refine o_pure (p_pick_true (u := .bool (((Tier.access t key).2.2) == less)) rfl rfl) rfl rfl rfl ?_
        exact o_sub (Sub.cons rfl (Sub.skip rfl (Sub.skip rfl (Sub.skip rfl (Sub.skip rfl (Sub.skip rfl (Sub.refl _))))))) hk
      · intro hb72 hk
        refine o_guard_no rfl 131 rfl rfl rfl rfl rfl ?_
        refine o_guard_no rfl 131 rfl rfl rfl rfl rfl ?_
        refine o_guard_no rfl 131 rfl rfl rfl rfl rfl ?_
        refine o_pure (p_pick_false (v := .bool false) rfl rfl) rfl rfl rfl ?_
        exact o_sub (Sub.cons rfl (Sub.skip rfl (Sub.skip rfl (Sub.skip rfl (Sub.skip rfl (Sub.skip rfl (Sub.refl _))))))) hk
      refine o_pure (p_move (v := .bool (((((Tier.check t) == (Tier.check t)) && (decide (((Tier.access t key).1) = tc))) && (((Tier.access t key).2.1) == wh)) && (((Tier.access t key).2.2) == less))) rfl) rfl rfl rfl ?_
      refine o_and (p := 140) 4 ((Tier.accessErr t key) == v) ?_ ?_ ?_
      · intro hb73 hk
        simp only [Bool.and_eq_true, beq_iff_eq, decide_eq_true_eq] at hb73
        refine o_unguard 136 rfl rfl ?_
        refine o_pure (p_move (v := .int .i64 (Tier.accessErr t key)) rfl) rfl rfl rfl ?_
        refine o_unguard 136 rfl rfl ?_
        refine o_pure (p_move (v := .int .i64 v) rfl) rfl rfl rfl ?_
        refine o_unguard 136 rfl rfl ?_
        refine o_pure (p_eq (p := (Tier.accessErr t key)) (q := v) rfl rfl) rfl rfl rfl ?_
        refine o_pure (p_pick_true (u := .bool ((Tier.accessErr t key) == v)) rfl rfl) rfl rfl rfl ?_
        exact o_sub (Sub.cons rfl (Sub.skip rfl (Sub.skip rfl (Sub.skip rfl (Sub.skip rfl (Sub.skip rfl (Sub.refl _))))))) hk
      · intro hb73 hk
        refine o_guard_no rfl 136 rfl rfl rfl rfl rfl ?_
        refine o_guard_no rfl 136 rfl rfl rfl rfl rfl ?_
        refine o_guard_no rfl 136 rfl rfl rfl rfl rfl ?_
        refine o_pure (p_pick_false (v := .bool false) rfl rfl) rfl rfl rfl ?_
        exact o_sub (Sub.cons rfl (Sub.skip rfl (Sub.skip rfl (Sub.skip rfl (Sub.skip rfl (Sub.skip rfl (Sub.refl _))))))) hk
      refine o_pure (p_move (v := .bool ((((((Tier.check t) == (Tier.check t)) && (decide (((Tier.access t key).1) = tc))) && (((Tier.access t key).2.1) == wh)) && (((Tier.access t key).2.2) == less)) && ((Tier.accessErr t key) == v))) rfl) rfl rfl rfl ?_
      refine o_and (p := 145) 4 (decide (((Tier.run t l).1) = (⟨0, 0, [], []⟩ : DTiers))) ?_ ?_ ?_
      · intro hb74 hk
        simp only [Bool.and_eq_true, beq_iff_eq, decide_eq_true_eq] at hb74
        refine o_unguard 141 rfl rfl ?_
        refine o_pure (p_load_agg (i := 8) (vs := [.int .i64 (((Tier.run t l).1).near), .int .i64 (((Tier.run t l).1).far), .slice a13 (((Tier.run t l).1).first).length c14, .slice a15 (((Tier.run t l).1).rest).length c16]) rfl rfl sh43 rfl rfl) rfl rfl rfl ?_
        refine o_unguard 141 rfl rfl ?_
        refine o_pure (p_load_agg (i := 4) (vs := [.int .i64 0, .int .i64 0, .slice none 0 0, .slice none 0 0]) rfl rfl sh43 rfl rfl) rfl rfl rfl ?_
        refine o_unguard 141 rfl rfl ?_
        refine o_call0 (v := .bool (decide (((Tier.run t l).1) = (⟨0, 0, [], []⟩ : DTiers)))) rfl (sameTiers_ok ((Tier.run t l).1) a13 c14 a15 c16 (⟨0, 0, [], []⟩ : DTiers) none 0 none 0) hf35 (fun w hw => ⟨(rd_ent (i := 9) rfl (fun w h => h.1)) w hw, (rd_ent (i := 9) rfl (fun w h => h.2)) w hw, rd_nil w hw, rd_nil w hw⟩) rfl ?_
        refine o_pure (p_pick_true (u := .bool (decide (((Tier.run t l).1) = (⟨0, 0, [], []⟩ : DTiers)))) rfl rfl) rfl rfl rfl ?_
        exact o_sub (Sub.cons rfl (Sub.skip rfl (Sub.skip rfl (Sub.skip rfl (Sub.skip rfl (Sub.skip rfl (Sub.refl _))))))) hk
      · intro hb74 hk
        refine o_guard_no rfl 141 rfl rfl rfl rfl rfl ?_
        refine o_guard_no rfl 141 rfl rfl rfl rfl rfl ?_
        refine o_guard_no rfl 141 rfl rfl rfl rfl rfl ?_
        refine o_pure (p_pick_false (v := .bool false) rfl rfl) rfl rfl rfl ?_
        exact o_sub (Sub.cons rfl (Sub.skip rfl (Sub.skip rfl (Sub.skip rfl (Sub.skip rfl (Sub.skip rfl (Sub.refl _))))))) hk
      refine o_pure (p_move (v := .bool (((((((Tier.check t) == (Tier.check t)) && (decide (((Tier.access t key).1) = tc))) && (((Tier.access t key).2.1) == wh)) && (((Tier.access t key).2.2) == less)) && ((Tier.accessErr t key) == v)) && (decide (((Tier.run t l).1) = (⟨0, 0, [], []⟩ : DTiers))))) rfl) rfl rfl rfl ?_
      refine o_and (p := 150) 4 (((Tier.run t l).2.1) == 0) ?_ ?_ ?_
      · intro hb75 hk
        simp only [Bool.and_eq_true, beq_iff_eq, decide_eq_true_eq] at hb75
        refine o_unguard 146 rfl rfl ?_
        refine o_pure (p_move (v := .int .i64 ((Tier.run t l).2.1)) rfl) rfl rfl rfl ?_
        refine o_unguard 146 rfl rfl ?_
        refine o_pure (p_move (v := .int .i64 0) rfl) rfl rfl rfl ?_
        refine o_unguard 146 rfl rfl ?_
        refine o_pure (p_eq (p := ((Tier.run t l).2.1)) (q := 0) rfl rfl) rfl rfl rfl ?_
        refine o_pure (p_pick_true (u := .bool (((Tier.run t l).2.1) == 0)) rfl rfl) rfl rfl rfl ?_
        exact o_sub (Sub.cons rfl (Sub.skip rfl (Sub.skip rfl (Sub.skip rfl (Sub.skip rfl (Sub.skip rfl (Sub.refl _))))))) hk
      · intro hb75 hk
        refine o_guard_no rfl 146 rfl rfl rfl rfl rfl ?_
        refine o_guard_no rfl 146 rfl rfl rfl rfl rfl ?_
        refine o_guard_no rfl 146 rfl rfl rfl rfl rfl ?_
        refine o_pure (p_pick_false (v := .bool false) rfl rfl) rfl rfl rfl ?_
        exact o_sub (Sub.cons rfl (Sub.skip rfl (Sub.skip rfl (Sub.skip rfl (Sub.skip rfl (Sub.skip rfl (Sub.refl _))))))) hk
      refine o_pure (p_move (v := .bool ((((((((Tier.check t) == (Tier.check t)) && (decide (((Tier.access t key).1) = tc))) && (((Tier.access t key).2.1) == wh)) && (((Tier.access t key).2.2) == less)) && ((Tier.accessErr t key) == v)) && (decide (((Tier.run t l).1) = (⟨0, 0, [], []⟩ : DTiers)))) && (((Tier.run t l).2.1) == 0))) rfl) rfl rfl rfl ?_
      refine o_and (p := 155) 4 (((Tier.run t l).2.2) == 0) ?_ ?_ ?_
      · intro hb76 hk
        simp only [Bool.and_eq_true, beq_iff_eq, decide_eq_true_eq] at hb76
        refine o_unguard 151 rfl rfl ?_
        refine o_pure (p_move (v := .int .i64 ((Tier.run t l).2.2)) rfl) rfl rfl rfl ?_
        refine o_unguard 151 rfl rfl ?_
        refine o_pure (p_move (v := .int .i64 0) rfl) rfl rfl rfl ?_
        refine o_unguard 151 rfl rfl ?_
        refine o_pure (p_eq (p := ((Tier.run t l).2.2)) (q := 0) rfl rfl) rfl rfl rfl ?_
        refine o_pure (p_pick_true (u := .bool (((Tier.run t l).2.2) == 0)) rfl rfl) rfl rfl rfl ?_
        exact o_sub (Sub.cons rfl (Sub.skip rfl (Sub.skip rfl (Sub.skip rfl (Sub.skip rfl (Sub.skip rfl (Sub.refl _))))))) hk
      · intro hb76 hk
        refine o_guard_no rfl 151 rfl rfl rfl rfl rfl ?_
        refine o_guard_no rfl 151 rfl rfl rfl rfl rfl ?_
        refine o_guard_no rfl 151 rfl rfl rfl rfl rfl ?_
        refine o_pure (p_pick_false (v := .bool false) rfl rfl) rfl rfl rfl ?_
        exact o_sub (Sub.cons rfl (Sub.skip rfl (Sub.skip rfl (Sub.skip rfl (Sub.skip rfl (Sub.skip rfl (Sub.refl _))))))) hk
      refine o_pure (p_move (v := .bool (((((((((Tier.check t) == (Tier.check t)) && (decide (((Tier.access t key).1) = tc))) && (((Tier.access t key).2.1) == wh)) && (((Tier.access t key).2.2) == less)) && ((Tier.accessErr t key) == v)) && (decide (((Tier.run t l).1) = (⟨0, 0, [], []⟩ : DTiers)))) && (((Tier.run t l).2.1) == 0)) && (((Tier.run t l).2.2) == 0))) rfl) rfl rfl rfl ?_
      refine o_and (p := 160) 4 ((Tier.runErr t l) == (Lru.trace l)) ?_ ?_ ?_
      · intro hb77 hk
        simp only [Bool.and_eq_true, beq_iff_eq, decide_eq_true_eq] at hb77
        refine o_unguard 156 rfl rfl ?_
        refine o_pure (p_move (v := .int .i64 (Tier.runErr t l)) rfl) rfl rfl rfl ?_
        refine o_unguard 156 rfl rfl ?_
        refine o_pure (p_move (v := .int .i64 (Lru.trace l)) rfl) rfl rfl rfl ?_
        refine o_unguard 156 rfl rfl ?_
        refine o_pure (p_eq (p := (Tier.runErr t l)) (q := (Lru.trace l)) rfl rfl) rfl rfl rfl ?_
        refine o_pure (p_pick_true (u := .bool ((Tier.runErr t l) == (Lru.trace l))) rfl rfl) rfl rfl rfl ?_
        exact o_sub (Sub.cons rfl (Sub.skip rfl (Sub.skip rfl (Sub.skip rfl (Sub.skip rfl (Sub.skip rfl (Sub.refl _))))))) hk
      · intro hb77 hk
        refine o_guard_no rfl 156 rfl rfl rfl rfl rfl ?_
        refine o_guard_no rfl 156 rfl rfl rfl rfl rfl ?_
        refine o_guard_no rfl 156 rfl rfl rfl rfl rfl ?_
        refine o_pure (p_pick_false (v := .bool false) rfl rfl) rfl rfl rfl ?_
        exact o_sub (Sub.cons rfl (Sub.skip rfl (Sub.skip rfl (Sub.skip rfl (Sub.skip rfl (Sub.skip rfl (Sub.refl _))))))) hk
      refine o_pure (p_move (v := .bool ((((((((((Tier.check t) == (Tier.check t)) && (decide (((Tier.access t key).1) = tc))) && (((Tier.access t key).2.1) == wh)) && (((Tier.access t key).2.2) == less)) && ((Tier.accessErr t key) == v)) && (decide (((Tier.run t l).1) = (⟨0, 0, [], []⟩ : DTiers)))) && (((Tier.run t l).2.1) == 0)) && (((Tier.run t l).2.2) == 0)) && ((Tier.runErr t l) == (Lru.trace l)))) rfl) rfl rfl rfl ?_
      refine o_and (p := 167) 6 ((Tier.merged t).room == (t.near + t.far)) ?_ ?_ ?_
      · intro hb78 hk
        simp only [Bool.and_eq_true, beq_iff_eq, decide_eq_true_eq] at hb78
        refine o_unguard 161 rfl rfl ?_
        refine o_pure (p_fieldAddr (B := B25) (j := 0) (j' := 0) rfl fo48_0 rfl) rfl rfl rfl ?_
        refine o_unguard 161 rfl rfl ?_
        refine o_pure (p_load (i := 6) (v := .int .i64 ((Tier.merged t).room)) rfl rfl sh3 rfl) rfl rfl rfl ?_
        refine o_unguard 161 rfl rfl ?_
        refine o_pure (p_fieldAddr (B := B28) (j := 0) (j' := 0) rfl fo48_0 rfl) rfl rfl rfl ?_
        refine o_unguard 161 rfl rfl ?_
        refine o_pure (p_load (i := 3) (v := .int .i64 (t.near + t.far)) rfl rfl sh3 rfl) rfl rfl rfl ?_
        refine o_unguard 161 rfl rfl ?_
        refine o_pure (p_eq (p := (Tier.merged t).room) (q := (t.near + t.far)) rfl rfl) rfl rfl rfl ?_
        refine o_pure (p_pick_true (u := .bool ((Tier.merged t).room == (t.near + t.far))) rfl rfl) rfl rfl rfl ?_
        exact o_sub (Sub.cons rfl (Sub.skip rfl (Sub.skip rfl (Sub.skip rfl (Sub.skip rfl (Sub.skip rfl (Sub.skip rfl (Sub.skip rfl (Sub.refl _))))))))) hk
      · intro hb78 hk
        refine o_guard_no rfl 161 rfl rfl rfl rfl rfl ?_
        refine o_guard_no rfl 161 rfl rfl rfl rfl rfl ?_
        refine o_guard_no rfl 161 rfl rfl rfl rfl rfl ?_
        refine o_guard_no rfl 161 rfl rfl rfl rfl rfl ?_
        refine o_guard_no rfl 161 rfl rfl rfl rfl rfl ?_
        refine o_pure (p_pick_false (v := .bool false) rfl rfl) rfl rfl rfl ?_
        exact o_sub (Sub.cons rfl (Sub.skip rfl (Sub.skip rfl (Sub.skip rfl (Sub.skip rfl (Sub.skip rfl (Sub.skip rfl (Sub.skip rfl (Sub.refl _))))))))) hk
      refine o_pure (p_move (v := .bool (((((((((((Tier.check t) == (Tier.check t)) && (decide (((Tier.access t key).1) = tc))) && (((Tier.access t key).2.1) == wh)) && (((Tier.access t key).2.2) == less)) && ((Tier.accessErr t key) == v)) && (decide (((Tier.run t l).1) = (⟨0, 0, [], []⟩ : DTiers)))) && (((Tier.run t l).2.1) == 0)) && (((Tier.run t l).2.2) == 0)) && ((Tier.runErr t l) == (Lru.trace l))) && ((Tier.merged t).room == (t.near + t.far)))) rfl) rfl rfl rfl ?_
      refine o_and (p := 174) 6 (Ref.sameInts ((Tier.merged t).keys) (t.first ++ t.rest)) ?_ ?_ ?_
      · intro hb79 hk
        simp only [Bool.and_eq_true, beq_iff_eq, decide_eq_true_eq] at hb79
        refine o_unguard 168 rfl rfl ?_
        refine o_pure (p_fieldAddr (B := B25) (j := 0) (j' := 1) rfl fo48_1 rfl) rfl rfl rfl ?_
        refine o_unguard 168 rfl rfl ?_
        refine o_pure (p_load (i := 6) (v := .slice a22 ((Tier.merged t).keys).length c23) rfl rfl sh23 rfl) rfl rfl rfl ?_
        refine o_unguard 168 rfl rfl ?_
        refine o_pure (p_fieldAddr (B := B28) (j := 0) (j' := 1) rfl fo48_1 rfl) rfl rfl rfl ?_
        refine o_unguard 168 rfl rfl ?_
        refine o_pure (p_load (i := 3) (v := .slice a69_11 (t.first ++ t.rest).length c69_11) rfl rfl sh23 rfl) rfl rfl rfl ?_
        refine o_unguard 168 rfl rfl ?_
        refine o_call0 (v := .bool (Ref.sameInts ((Tier.merged t).keys) (t.first ++ t.rest))) rfl (sameInts_ok ((Tier.merged t).keys) a22 c23 (t.first ++ t.rest) a69_11 c69_11) hf26 (fun w hw => ⟨(rd_own (i := 7) rfl) w hw, (rd_own (i := 0) rfl) w hw⟩) rfl ?_
        refine o_pure (p_pick_true (u := .bool (Ref.sameInts ((Tier.merged t).keys) (t.first ++ t.rest))) rfl rfl) rfl rfl rfl ?_
        exact o_sub (Sub.cons rfl (Sub.skip rfl (Sub.skip rfl (Sub.skip rfl (Sub.skip rfl (Sub.skip rfl (Sub.skip rfl (Sub.skip rfl (Sub.refl _))))))))) hk
      · intro hb79 hk
        refine o_guard_no rfl 168 rfl rfl rfl rfl rfl ?_
        refine o_guard_no rfl 168 rfl rfl rfl rfl rfl ?_
        refine o_guard_no rfl 168 rfl rfl rfl rfl rfl ?_
        refine o_guard_no rfl 168 rfl rfl rfl rfl rfl ?_
        refine o_guard_no rfl 168 rfl rfl rfl rfl rfl ?_
        refine o_pure (p_pick_false (v := .bool false) rfl rfl) rfl rfl rfl ?_
        exact o_sub (Sub.cons rfl (Sub.skip rfl (Sub.skip rfl (Sub.skip rfl (Sub.skip rfl (Sub.skip rfl (Sub.skip rfl (Sub.skip rfl (Sub.refl _))))))))) hk
      refine o_pure (p_move (v := .bool ((((((((((((Tier.check t) == (Tier.check t)) && (decide (((Tier.access t key).1) = tc))) && (((Tier.access t key).2.1) == wh)) && (((Tier.access t key).2.2) == less)) && ((Tier.accessErr t key) == v)) && (decide (((Tier.run t l).1) = (⟨0, 0, [], []⟩ : DTiers)))) && (((Tier.run t l).2.1) == 0)) && (((Tier.run t l).2.2) == 0)) && ((Tier.runErr t l) == (Lru.trace l))) && ((Tier.merged t).room == (t.near + t.far))) && (Ref.sameInts ((Tier.merged t).keys) (t.first ++ t.rest)))) rfl) rfl rfl rfl ?_
      refine o_and (p := 179) 4 ((Tier.check t) == (Tier.check t)) ?_ ?_ ?_
      · intro hb80 hk
        simp only [Bool.and_eq_true, beq_iff_eq, decide_eq_true_eq] at hb80
        refine o_unguard 175 rfl rfl ?_
        refine o_pure (p_move (v := .int .i64 (Tier.check t)) rfl) rfl rfl rfl ?_
        refine o_unguard 175 rfl rfl ?_
        refine o_pure (p_move (v := .int .i64 (Tier.check t)) rfl) rfl rfl rfl ?_
        refine o_unguard 175 rfl rfl ?_
        refine o_pure (p_eq (p := (Tier.check t)) (q := (Tier.check t)) rfl rfl) rfl rfl rfl ?_
        refine o_pure (p_pick_true (u := .bool ((Tier.check t) == (Tier.check t))) rfl rfl) rfl rfl rfl ?_
        exact o_sub (Sub.cons rfl (Sub.skip rfl (Sub.skip rfl (Sub.skip rfl (Sub.skip rfl (Sub.skip rfl (Sub.refl _))))))) hk
      · intro hb80 hk
        refine o_guard_no rfl 175 rfl rfl rfl rfl rfl ?_
        refine o_guard_no rfl 175 rfl rfl rfl rfl rfl ?_
        refine o_guard_no rfl 175 rfl rfl rfl rfl rfl ?_
        refine o_pure (p_pick_false (v := .bool false) rfl rfl) rfl rfl rfl ?_
        exact o_sub (Sub.cons rfl (Sub.skip rfl (Sub.skip rfl (Sub.skip rfl (Sub.skip rfl (Sub.skip rfl (Sub.refl _))))))) hk
      refine o_pure (p_assign (v := .bool (((((((((((((Tier.check t) == (Tier.check t)) && (decide (((Tier.access t key).1) = tc))) && (((Tier.access t key).2.1) == wh)) && (((Tier.access t key).2.2) == less)) && ((Tier.accessErr t key) == v)) && (decide (((Tier.run t l).1) = (⟨0, 0, [], []⟩ : DTiers)))) && (((Tier.run t l).2.1) == 0)) && (((Tier.run t l).2.2) == 0)) && ((Tier.runErr t l) == (Lru.trace l))) && ((Tier.merged t).room == (t.near + t.far))) && (Ref.sameInts ((Tier.merged t).keys) (t.first ++ t.rest))) && ((Tier.check t) == (Tier.check t)))) rfl) rfl rfl rfl ?_
      refine o_nil ?_
      refine q_then ?_
      refine c_ret ?_
      have hr0 : ((((((((((((((Tier.check t) == (Tier.check t)) && (decide (((Tier.access t key).1) = tc))) && (((Tier.access t key).2.1) == wh)) && (((Tier.access t key).2.2) == less)) && ((Tier.accessErr t key) == v)) && (decide (((Tier.run t l).1) = (⟨0, 0, [], []⟩ : DTiers)))) && (((Tier.run t l).2.1) == 0)) && (((Tier.run t l).2.2) == 0)) && ((Tier.runErr t l) == (Lru.trace l))) && ((Tier.merged t).room == (t.near + t.far))) && (Ref.sameInts ((Tier.merged t).keys) (t.first ++ t.rest))) && ((Tier.check t) == (Tier.check t))) : Bool) = true := by
        first | (obtain ⟨rfl, rfl, rfl, rfl⟩ := hj1; have hd := hI.done (by omega); simp [b1, b2, hm, hd, hck, htr, Tier.zero, Ref.sameInts]; done) | (obtain ⟨rfl, rfl, rfl, rfl⟩ := hj1; simp [b1, b2, hm, hck, Tier.zero, Ref.sameInts]; done) | (simp [a1, a2, b1, b2, hm, Tier.zero, Ref.sameInts]; done)
      refine q_end0 (v := .bool (((((((((((((Tier.check t) == (Tier.check t)) && (decide (((Tier.access t key).1) = tc))) && (((Tier.access t key).2.1) == wh)) && (((Tier.access t key).2.2) == less)) && ((Tier.accessErr t key) == v)) && (decide (((Tier.run t l).1) = (⟨0, 0, [], []⟩ : DTiers)))) && (((Tier.run t l).2.1) == 0)) && (((Tier.run t l).2.2) == 0)) && ((Tier.runErr t l) == (Lru.trace l))) && ((Tier.merged t).room == (t.near + t.far))) && (Ref.sameInts ((Tier.merged t).keys) (t.first ++ t.rest))) && ((Tier.check t) == (Tier.check t)))) (rt1 rfl (r_tmp rfl)) (i := 13) rfl ?_
      exact (by have hcc := congrArg (fun (y0 : Bool) => (.bool y0 : Value)) hr0; exact hcc)
  · simp only [beq_eq_false_iff_ne, ne_eq] at hc29
    obtain ⟨a1, a2⟩ := Tier.acc1 (key := key) hc29
    obtain ⟨b1, b2⟩ := Tier.run1 (l := l) hc29
    have hm := Tier.merged1 hc29
    refine c_skip ?_
    refine q_then ?_
    refine c_seq ?_
    refine c_region ?_
    refine o_call0 (v := .bool true) rfl (tierBegun_ok ) hf33 (fun _ _ => trivial) rfl ?_
    refine o_pure (p_move (v := .bool true) rfl) rfl rfl rfl ?_
    refine o_unguard 115 rfl rfl ?_
    refine o_pure (p_load_agg (i := 9) (vs := [.int .i64 t.near, .int .i64 t.far, .slice at_0 t.first.length ct_0, .slice at_1 t.rest.length ct_1]) rfl rfl sh43 rfl rfl) rfl rfl rfl ?_
    refine o_unguard 115 rfl rfl ?_
    refine o_call0 (v := .int .i64 (Tier.check t)) rfl (tcheck_ok t at_0 ct_0 at_1 ct_1) hf34 (fun w hw => ⟨(rd_base (i := 10) rfl ht_0) w hw, (rd_base (i := 10) rfl ht_1) w hw⟩) rfl ?_
    refine o_unguard 115 rfl rfl ?_
    refine o_pure (p_move (v := .int .i64 (Tier.check t)) rfl) rfl rfl rfl ?_
    refine o_unguard 115 rfl rfl ?_
    refine o_pure (p_eq (p := (Tier.check t)) (q := (Tier.check t)) rfl rfl) rfl rfl rfl ?_
    refine o_pure (p_pick_true (u := .bool ((Tier.check t) == (Tier.check t))) rfl rfl) rfl rfl rfl ?_
    refine o_pure (p_move (v := .bool ((Tier.check t) == (Tier.check t))) rfl) rfl rfl rfl ?_
    refine o_and (p := 125) 4 (decide (((Tier.access t key).1) = (⟨0, 0, [], []⟩ : DTiers))) ?_ ?_ ?_
    · intro hb81 hk
      simp only [beq_iff_eq] at hb81
      refine o_unguard 121 rfl rfl ?_
      refine o_pure (p_load_agg (i := 7) (vs := [.int .i64 (((Tier.access t key).1).near), .int .i64 (((Tier.access t key).1).far), .slice a4 (((Tier.access t key).1).first).length c5, .slice a6 (((Tier.access t key).1).rest).length c7]) rfl rfl sh43 rfl rfl) rfl rfl rfl ?_
      refine o_unguard 121 rfl rfl ?_
      refine o_pure (p_load_agg (i := 2) (vs := [.int .i64 0, .int .i64 0, .slice none 0 0, .slice none 0 0]) rfl rfl sh43 rfl rfl) rfl rfl rfl ?_
      refine o_unguard 121 rfl rfl ?_
      refine o_call0 (v := .bool (decide (((Tier.access t key).1) = (⟨0, 0, [], []⟩ : DTiers)))) rfl (sameTiers_ok ((Tier.access t key).1) a4 c5 a6 c7 (⟨0, 0, [], []⟩ : DTiers) none 0 none 0) hf35 (fun w hw => ⟨(rd_ent (i := 8) rfl (fun w h => h.1)) w hw, (rd_ent (i := 8) rfl (fun w h => h.2)) w hw, rd_nil w hw, rd_nil w hw⟩) rfl ?_
      refine o_pure (p_pick_true (u := .bool (decide (((Tier.access t key).1) = (⟨0, 0, [], []⟩ : DTiers)))) rfl rfl) rfl rfl rfl ?_
      exact o_sub (Sub.cons rfl (Sub.skip rfl (Sub.skip rfl (Sub.skip rfl (Sub.skip rfl (Sub.skip rfl (Sub.refl _))))))) hk
    · intro hb81 hk
      refine o_guard_no rfl 121 rfl rfl rfl rfl rfl ?_
      refine o_guard_no rfl 121 rfl rfl rfl rfl rfl ?_
      refine o_guard_no rfl 121 rfl rfl rfl rfl rfl ?_
      refine o_pure (p_pick_false (v := .bool false) rfl rfl) rfl rfl rfl ?_
      exact o_sub (Sub.cons rfl (Sub.skip rfl (Sub.skip rfl (Sub.skip rfl (Sub.skip rfl (Sub.skip rfl (Sub.refl _))))))) hk
    refine o_pure (p_move (v := .bool (((Tier.check t) == (Tier.check t)) && (decide (((Tier.access t key).1) = (⟨0, 0, [], []⟩ : DTiers))))) rfl) rfl rfl rfl ?_
    refine o_and (p := 130) 4 (((Tier.access t key).2.1) == 0) ?_ ?_ ?_
    · intro hb82 hk
      simp only [Bool.and_eq_true, beq_iff_eq, decide_eq_true_eq] at hb82
      refine o_unguard 126 rfl rfl ?_
      refine o_pure (p_move (v := .int .i64 ((Tier.access t key).2.1)) rfl) rfl rfl rfl ?_
      refine o_unguard 126 rfl rfl ?_
      refine o_pure (p_move (v := .int .i64 0) rfl) rfl rfl rfl ?_
      refine o_unguard 126 rfl rfl ?_
      refine o_pure (p_eq (p := ((Tier.access t key).2.1)) (q := 0) rfl rfl) rfl rfl rfl ?_
      refine o_pure (p_pick_true (u := .bool (((Tier.access t key).2.1) == 0)) rfl rfl) rfl rfl rfl ?_
      exact o_sub (Sub.cons rfl (Sub.skip rfl (Sub.skip rfl (Sub.skip rfl (Sub.skip rfl (Sub.skip rfl (Sub.refl _))))))) hk
    · intro hb82 hk
      refine o_guard_no rfl 126 rfl rfl rfl rfl rfl ?_
      refine o_guard_no rfl 126 rfl rfl rfl rfl rfl ?_
      refine o_guard_no rfl 126 rfl rfl rfl rfl rfl ?_
      refine o_pure (p_pick_false (v := .bool false) rfl rfl) rfl rfl rfl ?_
      exact o_sub (Sub.cons rfl (Sub.skip rfl (Sub.skip rfl (Sub.skip rfl (Sub.skip rfl (Sub.skip rfl (Sub.refl _))))))) hk
    refine o_pure (p_move (v := .bool ((((Tier.check t) == (Tier.check t)) && (decide (((Tier.access t key).1) = (⟨0, 0, [], []⟩ : DTiers)))) && (((Tier.access t key).2.1) == 0))) rfl) rfl rfl rfl ?_
    refine o_and (p := 135) 4 (((Tier.access t key).2.2) == 0) ?_ ?_ ?_
    · intro hb83 hk
      simp only [Bool.and_eq_true, beq_iff_eq, decide_eq_true_eq] at hb83
      refine o_unguard 131 rfl rfl ?_
      refine o_pure (p_move (v := .int .i64 ((Tier.access t key).2.2)) rfl) rfl rfl rfl ?_
      refine o_unguard 131 rfl rfl ?_
      refine o_pure (p_move (v := .int .i64 0) rfl) rfl rfl rfl ?_
      refine o_unguard 131 rfl rfl ?_
      refine o_pure (p_eq (p := ((Tier.access t key).2.2)) (q := 0) rfl rfl) rfl rfl rfl ?_
      refine o_pure (p_pick_true (u := .bool (((Tier.access t key).2.2) == 0)) rfl rfl) rfl rfl rfl ?_
      exact o_sub (Sub.cons rfl (Sub.skip rfl (Sub.skip rfl (Sub.skip rfl (Sub.skip rfl (Sub.skip rfl (Sub.refl _))))))) hk
    · intro hb83 hk
      refine o_guard_no rfl 131 rfl rfl rfl rfl rfl ?_
      refine o_guard_no rfl 131 rfl rfl rfl rfl rfl ?_
      refine o_guard_no rfl 131 rfl rfl rfl rfl rfl ?_
      refine o_pure (p_pick_false (v := .bool false) rfl rfl) rfl rfl rfl ?_
      exact o_sub (Sub.cons rfl (Sub.skip rfl (Sub.skip rfl (Sub.skip rfl (Sub.skip rfl (Sub.skip rfl (Sub.refl _))))))) hk
    refine o_pure (p_move (v := .bool (((((Tier.check t) == (Tier.check t)) && (decide (((Tier.access t key).1) = (⟨0, 0, [], []⟩ : DTiers)))) && (((Tier.access t key).2.1) == 0)) && (((Tier.access t key).2.2) == 0))) rfl) rfl rfl rfl ?_
    refine o_and (p := 140) 4 ((Tier.accessErr t key) == (Tier.check t)) ?_ ?_ ?_
    · intro hb84 hk
      simp only [Bool.and_eq_true, beq_iff_eq, decide_eq_true_eq] at hb84
      refine o_unguard 136 rfl rfl ?_
      refine o_pure (p_move (v := .int .i64 (Tier.accessErr t key)) rfl) rfl rfl rfl ?_
      refine o_unguard 136 rfl rfl ?_
      refine o_pure (p_move (v := .int .i64 (Tier.check t)) rfl) rfl rfl rfl ?_
      refine o_unguard 136 rfl rfl ?_
      refine o_pure (p_eq (p := (Tier.accessErr t key)) (q := (Tier.check t)) rfl rfl) rfl rfl rfl ?_
      refine o_pure (p_pick_true (u := .bool ((Tier.accessErr t key) == (Tier.check t))) rfl rfl) rfl rfl rfl ?_
      exact o_sub (Sub.cons rfl (Sub.skip rfl (Sub.skip rfl (Sub.skip rfl (Sub.skip rfl (Sub.skip rfl (Sub.refl _))))))) hk
    · intro hb84 hk
      refine o_guard_no rfl 136 rfl rfl rfl rfl rfl ?_
      refine o_guard_no rfl 136 rfl rfl rfl rfl rfl ?_
      refine o_guard_no rfl 136 rfl rfl rfl rfl rfl ?_
      refine o_pure (p_pick_false (v := .bool false) rfl rfl) rfl rfl rfl ?_
      exact o_sub (Sub.cons rfl (Sub.skip rfl (Sub.skip rfl (Sub.skip rfl (Sub.skip rfl (Sub.skip rfl (Sub.refl _))))))) hk
    refine o_pure (p_move (v := .bool ((((((Tier.check t) == (Tier.check t)) && (decide (((Tier.access t key).1) = (⟨0, 0, [], []⟩ : DTiers)))) && (((Tier.access t key).2.1) == 0)) && (((Tier.access t key).2.2) == 0)) && ((Tier.accessErr t key) == (Tier.check t)))) rfl) rfl rfl rfl ?_
    refine o_and (p := 145) 4 (decide (((Tier.run t l).1) = (⟨0, 0, [], []⟩ : DTiers))) ?_ ?_ ?_
    · intro hb85 hk
      simp only [Bool.and_eq_true, beq_iff_eq, decide_eq_true_eq] at hb85
      refine o_unguard 141 rfl rfl ?_
      refine o_pure (p_load_agg (i := 5) (vs := [.int .i64 (((Tier.run t l).1).near), .int .i64 (((Tier.run t l).1).far), .slice a13 (((Tier.run t l).1).first).length c14, .slice a15 (((Tier.run t l).1).rest).length c16]) rfl rfl sh43 rfl rfl) rfl rfl rfl ?_
      refine o_unguard 141 rfl rfl ?_
      refine o_pure (p_load_agg (i := 1) (vs := [.int .i64 0, .int .i64 0, .slice none 0 0, .slice none 0 0]) rfl rfl sh43 rfl rfl) rfl rfl rfl ?_
      refine o_unguard 141 rfl rfl ?_
      refine o_call0 (v := .bool (decide (((Tier.run t l).1) = (⟨0, 0, [], []⟩ : DTiers)))) rfl (sameTiers_ok ((Tier.run t l).1) a13 c14 a15 c16 (⟨0, 0, [], []⟩ : DTiers) none 0 none 0) hf35 (fun w hw => ⟨(rd_ent (i := 6) rfl (fun w h => h.1)) w hw, (rd_ent (i := 6) rfl (fun w h => h.2)) w hw, rd_nil w hw, rd_nil w hw⟩) rfl ?_
      refine o_pure (p_pick_true (u := .bool (decide (((Tier.run t l).1) = (⟨0, 0, [], []⟩ : DTiers)))) rfl rfl) rfl rfl rfl ?_
      exact o_sub (Sub.cons rfl (Sub.skip rfl (Sub.skip rfl (Sub.skip rfl (Sub.skip rfl (Sub.skip rfl (Sub.refl _))))))) hk
    · intro hb85 hk
      refine o_guard_no rfl 141 rfl rfl rfl rfl rfl ?_
      refine o_guard_no rfl 141 rfl rfl rfl rfl rfl ?_
      refine o_guard_no rfl 141 rfl rfl rfl rfl rfl ?_
      refine o_pure (p_pick_false (v := .bool false) rfl rfl) rfl rfl rfl ?_
      exact o_sub (Sub.cons rfl (Sub.skip rfl (Sub.skip rfl (Sub.skip rfl (Sub.skip rfl (Sub.skip rfl (Sub.refl _))))))) hk
    refine o_pure (p_move (v := .bool (((((((Tier.check t) == (Tier.check t)) && (decide (((Tier.access t key).1) = (⟨0, 0, [], []⟩ : DTiers)))) && (((Tier.access t key).2.1) == 0)) && (((Tier.access t key).2.2) == 0)) && ((Tier.accessErr t key) == (Tier.check t))) && (decide (((Tier.run t l).1) = (⟨0, 0, [], []⟩ : DTiers))))) rfl) rfl rfl rfl ?_
    refine o_and (p := 150) 4 (((Tier.run t l).2.1) == 0) ?_ ?_ ?_
    · intro hb86 hk
      simp only [Bool.and_eq_true, beq_iff_eq, decide_eq_true_eq] at hb86
      refine o_unguard 146 rfl rfl ?_
      refine o_pure (p_move (v := .int .i64 ((Tier.run t l).2.1)) rfl) rfl rfl rfl ?_
      refine o_unguard 146 rfl rfl ?_
      refine o_pure (p_move (v := .int .i64 0) rfl) rfl rfl rfl ?_
      refine o_unguard 146 rfl rfl ?_
      refine o_pure (p_eq (p := ((Tier.run t l).2.1)) (q := 0) rfl rfl) rfl rfl rfl ?_
      refine o_pure (p_pick_true (u := .bool (((Tier.run t l).2.1) == 0)) rfl rfl) rfl rfl rfl ?_
      exact o_sub (Sub.cons rfl (Sub.skip rfl (Sub.skip rfl (Sub.skip rfl (Sub.skip rfl (Sub.skip rfl (Sub.refl _))))))) hk
    · intro hb86 hk
      refine o_guard_no rfl 146 rfl rfl rfl rfl rfl ?_
      refine o_guard_no rfl 146 rfl rfl rfl rfl rfl ?_
      refine o_guard_no rfl 146 rfl rfl rfl rfl rfl ?_
      refine o_pure (p_pick_false (v := .bool false) rfl rfl) rfl rfl rfl ?_
      exact o_sub (Sub.cons rfl (Sub.skip rfl (Sub.skip rfl (Sub.skip rfl (Sub.skip rfl (Sub.skip rfl (Sub.refl _))))))) hk
    refine o_pure (p_move (v := .bool ((((((((Tier.check t) == (Tier.check t)) && (decide (((Tier.access t key).1) = (⟨0, 0, [], []⟩ : DTiers)))) && (((Tier.access t key).2.1) == 0)) && (((Tier.access t key).2.2) == 0)) && ((Tier.accessErr t key) == (Tier.check t))) && (decide (((Tier.run t l).1) = (⟨0, 0, [], []⟩ : DTiers)))) && (((Tier.run t l).2.1) == 0))) rfl) rfl rfl rfl ?_
    refine o_and (p := 155) 4 (((Tier.run t l).2.2) == 0) ?_ ?_ ?_
    · intro hb87 hk
      simp only [Bool.and_eq_true, beq_iff_eq, decide_eq_true_eq] at hb87
      refine o_unguard 151 rfl rfl ?_
      refine o_pure (p_move (v := .int .i64 ((Tier.run t l).2.2)) rfl) rfl rfl rfl ?_
      refine o_unguard 151 rfl rfl ?_
      refine o_pure (p_move (v := .int .i64 0) rfl) rfl rfl rfl ?_
      refine o_unguard 151 rfl rfl ?_
      refine o_pure (p_eq (p := ((Tier.run t l).2.2)) (q := 0) rfl rfl) rfl rfl rfl ?_
      refine o_pure (p_pick_true (u := .bool (((Tier.run t l).2.2) == 0)) rfl rfl) rfl rfl rfl ?_
      exact o_sub (Sub.cons rfl (Sub.skip rfl (Sub.skip rfl (Sub.skip rfl (Sub.skip rfl (Sub.skip rfl (Sub.refl _))))))) hk
    · intro hb87 hk
      refine o_guard_no rfl 151 rfl rfl rfl rfl rfl ?_
      refine o_guard_no rfl 151 rfl rfl rfl rfl rfl ?_
      refine o_guard_no rfl 151 rfl rfl rfl rfl rfl ?_
      refine o_pure (p_pick_false (v := .bool false) rfl rfl) rfl rfl rfl ?_
      exact o_sub (Sub.cons rfl (Sub.skip rfl (Sub.skip rfl (Sub.skip rfl (Sub.skip rfl (Sub.skip rfl (Sub.refl _))))))) hk
    refine o_pure (p_move (v := .bool (((((((((Tier.check t) == (Tier.check t)) && (decide (((Tier.access t key).1) = (⟨0, 0, [], []⟩ : DTiers)))) && (((Tier.access t key).2.1) == 0)) && (((Tier.access t key).2.2) == 0)) && ((Tier.accessErr t key) == (Tier.check t))) && (decide (((Tier.run t l).1) = (⟨0, 0, [], []⟩ : DTiers)))) && (((Tier.run t l).2.1) == 0)) && (((Tier.run t l).2.2) == 0))) rfl) rfl rfl rfl ?_
    refine o_and (p := 160) 4 ((Tier.runErr t l) == (Tier.check t)) ?_ ?_ ?_
    · intro hb88 hk
      simp only [Bool.and_eq_true, beq_iff_eq, decide_eq_true_eq] at hb88
      refine o_unguard 156 rfl rfl ?_
      refine o_pure (p_move (v := .int .i64 (Tier.runErr t l)) rfl) rfl rfl rfl ?_
      refine o_unguard 156 rfl rfl ?_
      refine o_pure (p_move (v := .int .i64 (Tier.check t)) rfl) rfl rfl rfl ?_
      refine o_unguard 156 rfl rfl ?_
      refine o_pure (p_eq (p := (Tier.runErr t l)) (q := (Tier.check t)) rfl rfl) rfl rfl rfl ?_
      refine o_pure (p_pick_true (u := .bool ((Tier.runErr t l) == (Tier.check t))) rfl rfl) rfl rfl rfl ?_
      exact o_sub (Sub.cons rfl (Sub.skip rfl (Sub.skip rfl (Sub.skip rfl (Sub.skip rfl (Sub.skip rfl (Sub.refl _))))))) hk
    · intro hb88 hk
      refine o_guard_no rfl 156 rfl rfl rfl rfl rfl ?_
      refine o_guard_no rfl 156 rfl rfl rfl rfl rfl ?_
      refine o_guard_no rfl 156 rfl rfl rfl rfl rfl ?_
      refine o_pure (p_pick_false (v := .bool false) rfl rfl) rfl rfl rfl ?_
      exact o_sub (Sub.cons rfl (Sub.skip rfl (Sub.skip rfl (Sub.skip rfl (Sub.skip rfl (Sub.skip rfl (Sub.refl _))))))) hk
    refine o_pure (p_move (v := .bool ((((((((((Tier.check t) == (Tier.check t)) && (decide (((Tier.access t key).1) = (⟨0, 0, [], []⟩ : DTiers)))) && (((Tier.access t key).2.1) == 0)) && (((Tier.access t key).2.2) == 0)) && ((Tier.accessErr t key) == (Tier.check t))) && (decide (((Tier.run t l).1) = (⟨0, 0, [], []⟩ : DTiers)))) && (((Tier.run t l).2.1) == 0)) && (((Tier.run t l).2.2) == 0)) && ((Tier.runErr t l) == (Tier.check t)))) rfl) rfl rfl rfl ?_
    refine o_and (p := 167) 6 ((Tier.merged t).room == 0) ?_ ?_ ?_
    · intro hb89 hk
      simp only [Bool.and_eq_true, beq_iff_eq, decide_eq_true_eq] at hb89
      refine o_unguard 161 rfl rfl ?_
      refine o_pure (p_fieldAddr (B := B25) (j := 0) (j' := 0) rfl fo48_0 rfl) rfl rfl rfl ?_
      refine o_unguard 161 rfl rfl ?_
      refine o_pure (p_load (i := 3) (v := .int .i64 ((Tier.merged t).room)) rfl rfl sh3 rfl) rfl rfl rfl ?_
      refine o_unguard 161 rfl rfl ?_
      refine o_pure (p_fieldAddr (B := B28) (j := 0) (j' := 0) rfl fo48_0 rfl) rfl rfl rfl ?_
      refine o_unguard 161 rfl rfl ?_
      refine o_pure (p_load (i := 0) (v := .int .i64 0) rfl rfl sh3 rfl) rfl rfl rfl ?_
      refine o_unguard 161 rfl rfl ?_
      refine o_pure (p_eq (p := (Tier.merged t).room) (q := 0) rfl rfl) rfl rfl rfl ?_
      refine o_pure (p_pick_true (u := .bool ((Tier.merged t).room == 0)) rfl rfl) rfl rfl rfl ?_
      exact o_sub (Sub.cons rfl (Sub.skip rfl (Sub.skip rfl (Sub.skip rfl (Sub.skip rfl (Sub.skip rfl (Sub.skip rfl (Sub.skip rfl (Sub.refl _))))))))) hk
    · intro hb89 hk
      refine o_guard_no rfl 161 rfl rfl rfl rfl rfl ?_
      refine o_guard_no rfl 161 rfl rfl rfl rfl rfl ?_
      refine o_guard_no rfl 161 rfl rfl rfl rfl rfl ?_
      refine o_guard_no rfl 161 rfl rfl rfl rfl rfl ?_
      refine o_guard_no rfl 161 rfl rfl rfl rfl rfl ?_
      refine o_pure (p_pick_false (v := .bool false) rfl rfl) rfl rfl rfl ?_
      exact o_sub (Sub.cons rfl (Sub.skip rfl (Sub.skip rfl (Sub.skip rfl (Sub.skip rfl (Sub.skip rfl (Sub.skip rfl (Sub.skip rfl (Sub.refl _))))))))) hk
    refine o_pure (p_move (v := .bool (((((((((((Tier.check t) == (Tier.check t)) && (decide (((Tier.access t key).1) = (⟨0, 0, [], []⟩ : DTiers)))) && (((Tier.access t key).2.1) == 0)) && (((Tier.access t key).2.2) == 0)) && ((Tier.accessErr t key) == (Tier.check t))) && (decide (((Tier.run t l).1) = (⟨0, 0, [], []⟩ : DTiers)))) && (((Tier.run t l).2.1) == 0)) && (((Tier.run t l).2.2) == 0)) && ((Tier.runErr t l) == (Tier.check t))) && ((Tier.merged t).room == 0))) rfl) rfl rfl rfl ?_
    refine o_and (p := 174) 6 (Ref.sameInts ((Tier.merged t).keys) []) ?_ ?_ ?_
    · intro hb90 hk
      simp only [Bool.and_eq_true, beq_iff_eq, decide_eq_true_eq] at hb90
      refine o_unguard 168 rfl rfl ?_
      refine o_pure (p_fieldAddr (B := B25) (j := 0) (j' := 1) rfl fo48_1 rfl) rfl rfl rfl ?_
      refine o_unguard 168 rfl rfl ?_
      refine o_pure (p_load (i := 3) (v := .slice a22 ((Tier.merged t).keys).length c23) rfl rfl sh23 rfl) rfl rfl rfl ?_
      refine o_unguard 168 rfl rfl ?_
      refine o_pure (p_fieldAddr (B := B28) (j := 0) (j' := 1) rfl fo48_1 rfl) rfl rfl rfl ?_
      refine o_unguard 168 rfl rfl ?_
      refine o_pure (p_load (i := 0) (v := .slice none 0 0) rfl rfl sh23 rfl) rfl rfl rfl ?_
      refine o_unguard 168 rfl rfl ?_
      refine o_call0 (v := .bool (Ref.sameInts ((Tier.merged t).keys) [])) rfl (sameInts_ok ((Tier.merged t).keys) a22 c23 [] none 0) hf26 (fun w hw => ⟨(rd_own (i := 4) rfl) w hw, rd_nil w hw⟩) rfl ?_
      refine o_pure (p_pick_true (u := .bool (Ref.sameInts ((Tier.merged t).keys) [])) rfl rfl) rfl rfl rfl ?_
      exact o_sub (Sub.cons rfl (Sub.skip rfl (Sub.skip rfl (Sub.skip rfl (Sub.skip rfl (Sub.skip rfl (Sub.skip rfl (Sub.skip rfl (Sub.refl _))))))))) hk
    · intro hb90 hk
      refine o_guard_no rfl 168 rfl rfl rfl rfl rfl ?_
      refine o_guard_no rfl 168 rfl rfl rfl rfl rfl ?_
      refine o_guard_no rfl 168 rfl rfl rfl rfl rfl ?_
      refine o_guard_no rfl 168 rfl rfl rfl rfl rfl ?_
      refine o_guard_no rfl 168 rfl rfl rfl rfl rfl ?_
      refine o_pure (p_pick_false (v := .bool false) rfl rfl) rfl rfl rfl ?_
      exact o_sub (Sub.cons rfl (Sub.skip rfl (Sub.skip rfl (Sub.skip rfl (Sub.skip rfl (Sub.skip rfl (Sub.skip rfl (Sub.skip rfl (Sub.refl _))))))))) hk
    refine o_pure (p_move (v := .bool ((((((((((((Tier.check t) == (Tier.check t)) && (decide (((Tier.access t key).1) = (⟨0, 0, [], []⟩ : DTiers)))) && (((Tier.access t key).2.1) == 0)) && (((Tier.access t key).2.2) == 0)) && ((Tier.accessErr t key) == (Tier.check t))) && (decide (((Tier.run t l).1) = (⟨0, 0, [], []⟩ : DTiers)))) && (((Tier.run t l).2.1) == 0)) && (((Tier.run t l).2.2) == 0)) && ((Tier.runErr t l) == (Tier.check t))) && ((Tier.merged t).room == 0)) && (Ref.sameInts ((Tier.merged t).keys) []))) rfl) rfl rfl rfl ?_
    refine o_and (p := 179) 4 ((Tier.check t) == (Tier.check t)) ?_ ?_ ?_
    · intro hb91 hk
      simp only [Bool.and_eq_true, beq_iff_eq, decide_eq_true_eq] at hb91
      refine o_unguard 175 rfl rfl ?_
      refine o_pure (p_move (v := .int .i64 (Tier.check t)) rfl) rfl rfl rfl ?_
      refine o_unguard 175 rfl rfl ?_
      refine o_pure (p_move (v := .int .i64 (Tier.check t)) rfl) rfl rfl rfl ?_
      refine o_unguard 175 rfl rfl ?_
      refine o_pure (p_eq (p := (Tier.check t)) (q := (Tier.check t)) rfl rfl) rfl rfl rfl ?_
      refine o_pure (p_pick_true (u := .bool ((Tier.check t) == (Tier.check t))) rfl rfl) rfl rfl rfl ?_
      exact o_sub (Sub.cons rfl (Sub.skip rfl (Sub.skip rfl (Sub.skip rfl (Sub.skip rfl (Sub.skip rfl (Sub.refl _))))))) hk
    · intro hb91 hk
      refine o_guard_no rfl 175 rfl rfl rfl rfl rfl ?_
      refine o_guard_no rfl 175 rfl rfl rfl rfl rfl ?_
      refine o_guard_no rfl 175 rfl rfl rfl rfl rfl ?_
      refine o_pure (p_pick_false (v := .bool false) rfl rfl) rfl rfl rfl ?_
      exact o_sub (Sub.cons rfl (Sub.skip rfl (Sub.skip rfl (Sub.skip rfl (Sub.skip rfl (Sub.skip rfl (Sub.refl _))))))) hk
    refine o_pure (p_assign (v := .bool (((((((((((((Tier.check t) == (Tier.check t)) && (decide (((Tier.access t key).1) = (⟨0, 0, [], []⟩ : DTiers)))) && (((Tier.access t key).2.1) == 0)) && (((Tier.access t key).2.2) == 0)) && ((Tier.accessErr t key) == (Tier.check t))) && (decide (((Tier.run t l).1) = (⟨0, 0, [], []⟩ : DTiers)))) && (((Tier.run t l).2.1) == 0)) && (((Tier.run t l).2.2) == 0)) && ((Tier.runErr t l) == (Tier.check t))) && ((Tier.merged t).room == 0)) && (Ref.sameInts ((Tier.merged t).keys) [])) && ((Tier.check t) == (Tier.check t)))) rfl) rfl rfl rfl ?_
    refine o_nil ?_
    refine q_then ?_
    refine c_ret ?_
    have hr0 : ((((((((((((((Tier.check t) == (Tier.check t)) && (decide (((Tier.access t key).1) = (⟨0, 0, [], []⟩ : DTiers)))) && (((Tier.access t key).2.1) == 0)) && (((Tier.access t key).2.2) == 0)) && ((Tier.accessErr t key) == (Tier.check t))) && (decide (((Tier.run t l).1) = (⟨0, 0, [], []⟩ : DTiers)))) && (((Tier.run t l).2.1) == 0)) && (((Tier.run t l).2.2) == 0)) && ((Tier.runErr t l) == (Tier.check t))) && ((Tier.merged t).room == 0)) && (Ref.sameInts ((Tier.merged t).keys) [])) && ((Tier.check t) == (Tier.check t))) : Bool) = true := by
      first | (obtain ⟨rfl, rfl, rfl, rfl⟩ := hj1; have hd := hI.done (by omega); simp [b1, b2, hm, hd, hck, htr, Tier.zero, Ref.sameInts]; done) | (obtain ⟨rfl, rfl, rfl, rfl⟩ := hj1; simp [b1, b2, hm, hck, Tier.zero, Ref.sameInts]; done) | (simp [a1, a2, b1, b2, hm, Tier.zero, Ref.sameInts]; done)
    refine q_end0 (v := .bool (((((((((((((Tier.check t) == (Tier.check t)) && (decide (((Tier.access t key).1) = (⟨0, 0, [], []⟩ : DTiers)))) && (((Tier.access t key).2.1) == 0)) && (((Tier.access t key).2.2) == 0)) && ((Tier.accessErr t key) == (Tier.check t))) && (decide (((Tier.run t l).1) = (⟨0, 0, [], []⟩ : DTiers)))) && (((Tier.run t l).2.1) == 0)) && (((Tier.run t l).2.2) == 0)) && ((Tier.runErr t l) == (Tier.check t))) && ((Tier.merged t).room == 0)) && (Ref.sameInts ((Tier.merged t).keys) [])) && ((Tier.check t) == (Tier.check t)))) (rt1 rfl (r_tmp rfl)) (i := 10) rfl ?_
    exact (by have hcc := congrArg (fun (y0 : Bool) => (.bool y0 : Value)) hr0; exact hcc)
end Go.Proofs.Ytgjdmnljnimamaa
