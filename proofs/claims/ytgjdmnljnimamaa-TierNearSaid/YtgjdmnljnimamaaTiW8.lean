/- The walks, printed by a program from the translation and a specification. -/
import Derived.Test.YtgjdmnljnimamaaTiF
import Derived.Test.YtgjdmnljnimamaaTiLaw
import Derived.Test.YtgjdmnljnimamaaTiW7
import Derived.Test.YtgjdmnljnimamaaTiW5
import Derived.Test.YtgjdmnljnimamaaTiW4
namespace Go.Proofs.Ytgjdmnljnimamaa
open Go.Sx Go.RowKit
set_option maxHeartbeats 8000000 in
set_option maxRecDepth 100000 in
theorem taccess_ok (t : DTiers) (at_0 : Option Addr) (ct_0 : Nat) (at_1 : Option Addr) (ct_1 : Nat) (key : Int) : FnM Try.prog 27 [.agg #[.int .i64 t.near, .int .i64 t.far, .slice at_0 t.first.length ct_0, .slice at_1 t.rest.length ct_1], .int .i64 key] (fun w => Rd tInt w at_0 ct_0 t.first ∧ Rd tInt w at_1 ct_1 t.rest) (Option Addr × Nat × Option Addr × Nat) (fun p => .tuple #[.agg #[.int .i64 (((Tier.access t key).1).near), .int .i64 (((Tier.access t key).1).far), .slice p.1 (((Tier.access t key).1).first).length p.2.1, .slice p.2.2.1 (((Tier.access t key).1).rest).length p.2.2.2], .int .i64 ((Tier.access t key).2.1), .int .i64 ((Tier.access t key).2.2), .int .i64 (Tier.accessErr t key)]) (fun p S w => SlR tInt S w p.1 p.2.1 (((Tier.access t key).1).first) ∧ SlR tInt S w p.2.2.1 p.2.2.2 (((Tier.access t key).1).rest)) := by
  refine fnM (nt := 38) (F0 := [(0, .agg #[.int .i64 t.near, .int .i64 t.far, .slice at_0 t.first.length ct_0, .slice at_1 t.rest.length ct_1]), (1, .int .i64 key)]) Try.func27 rfl Try.ntmps27 rfl rfl (fun w0 hpre => ?_)
  obtain ⟨ht_0, ht_1⟩ := hpre
  have hlht_0 := ht_0.2.1
  have hlht_1 := ht_1.2.1
  refine c_seq ?_
  refine c_region ?_
  refine o_box (v := .agg #[.int .i64 t.near, .int .i64 t.far, .slice at_0 t.first.length ct_0, .slice at_1 t.rest.length ct_1]) rfl rfl (fun B1 => ?_)
  refine o_alloc ze43 rfl (fun B2 => ?_)
  refine o_pure (p_assign (v := .int .i64 0) rfl) rfl rfl rfl ?_
  refine o_pure (p_assign (v := .int .i64 0) rfl) rfl rfl rfl ?_
  refine o_pure (p_assign (v := .int .i64 0) rfl) rfl rfl rfl ?_
  refine o_nil ?_
  refine q_then ?_
  refine c_seq ?_
  refine c_region ?_
  refine o_pure (p_load_agg (i := 1) (vs := [.int .i64 t.near, .int .i64 t.far, .slice at_0 t.first.length ct_0, .slice at_1 t.rest.length ct_1]) rfl rfl sh43 rfl rfl) rfl rfl rfl ?_
  refine o_call0 (v := .int .i64 (Tier.check t)) rfl (tcheck_ok t at_0 ct_0 at_1 ct_1) hf34 (fun w hw => ⟨(rd_base (i := 2) rfl ht_0) w hw, (rd_base (i := 2) rfl ht_1) w hw⟩) rfl ?_
  refine o_pure (p_assign (v := .int .i64 (Tier.check t)) rfl) rfl rfl rfl ?_
  refine o_nil ?_
  refine q_then ?_
  refine c_seq ?_
  refine c_seq ?_
  refine c_region ?_
  refine o_pure (p_move (v := .int .i64 (Tier.check t)) rfl) rfl rfl rfl ?_
  refine o_pure (p_eq (p := (Tier.check t)) (q := 0) rfl rfl) rfl rfl rfl ?_
  refine o_pure (p_move (v := .bool ((Tier.check t) == 0)) rfl) rfl rfl rfl ?_
  refine o_and (p := 20) 4 (!(Lru.okKey key)) ?_ ?_ ?_
  · intro hb3 hk
    simp only [beq_iff_eq] at hb3
    refine o_unguard 16 rfl rfl ?_
    refine o_pure (p_move (v := .int .i64 key) rfl) rfl rfl rfl ?_
    refine o_unguard 16 rfl rfl ?_
    refine o_call0 (v := .bool (Lru.okKey key)) rfl (key_ok key) hf58 (fun _ _ => trivial) rfl ?_
    refine o_unguard 16 rfl rfl ?_
    refine o_pure (p_not (b := (Lru.okKey key)) rfl) rfl rfl rfl ?_
    refine o_pure (p_pick_true (u := .bool (!(Lru.okKey key))) rfl rfl) rfl rfl rfl ?_
    exact o_sub (Sub.cons rfl (Sub.skip rfl (Sub.skip rfl (Sub.skip rfl (Sub.skip rfl (Sub.skip rfl (Sub.refl _))))))) hk
  · intro hb3 hk
    refine o_guard_no rfl 16 rfl rfl rfl rfl rfl ?_
    refine o_guard_no rfl 16 rfl rfl rfl rfl rfl ?_
    refine o_guard_no rfl 16 rfl rfl rfl rfl rfl ?_
    refine o_pure (p_pick_false (v := .bool false) rfl rfl) rfl rfl rfl ?_
    exact o_sub (Sub.cons rfl (Sub.skip rfl (Sub.skip rfl (Sub.skip rfl (Sub.skip rfl (Sub.skip rfl (Sub.refl _))))))) hk
  refine o_nil ?_
  refine q_then ?_
  refine c_cond (b := (((Tier.check t) == 0) && (!(Lru.okKey key)))) rfl (fun hc4 => ?_) (fun hc4 => ?_)
  · simp only [Bool.and_eq_true, beq_iff_eq, Bool.not_eq_true'] at hc4
    have hbad := hc4
    refine c_region ?_
    refine o_pure (p_assign (v := .int .i64 3) rfl) rfl rfl rfl ?_
    refine o_nil ?_
    refine q_then ?_
    refine c_seq ?_
    refine c_seq ?_
    refine c_region ?_
    refine o_pure (p_move (v := .int .i64 3) rfl) rfl rfl rfl ?_
    refine o_pure (p_ne (p := 3) (q := 0) rfl rfl) rfl rfl rfl ?_
    refine o_nil ?_
    refine q_then ?_
    refine c_true rfl ?_
    refine c_seq ?_
    refine c_region ?_
    refine o_pure (p_build (cells := [.int .i64 0, .int .i64 0, .slice none 0 0, .slice none 0 0]) fp43 ze43 rfl rfl) rfl rfl rfl ?_
    refine o_pure (p_move (v := .int .i64 3) rfl) rfl rfl rfl ?_
    refine o_storeN (i := 0) (vs := [.int .i64 0, .int .i64 0, .slice none 0 0, .slice none 0 0]) (cs' := [.int .i64 0, .int .i64 0, .slice none 0 0, .slice none 0 0]) rfl rfl rfl sz43 rfl rfl rfl rfl ?_
    refine o_pure (p_assign (v := .int .i64 0) rfl) rfl rfl rfl ?_
    refine o_pure (p_assign (v := .int .i64 0) rfl) rfl rfl rfl ?_
    refine o_pure (p_assign (v := .int .i64 3) rfl) rfl rfl rfl ?_
    refine o_nil ?_
    refine q_then ?_
    refine c_ret ?_
    refine q_then_ret ?_
    obtain ⟨ha, hae⟩ : _ ∧ _ := by first | exact Tier.acc2 (c := t) (key := key) hbad.1 hbad.2 | exact Tier.acc3 (c := t) (key := key) (by assumption) hkk | exact Tier.acc1 (c := t) (key := key) (by assumption)
    have hr0 : (0 : Int) = ((Tier.access t key).1).near := by
      simp only [ha, hae, Tier.zero, Tier.touch]
    have hr1 : (0 : Int) = ((Tier.access t key).1).far := by
      simp only [ha, hae, Tier.zero, Tier.touch]
    have hr2 : ([] : List Int) = ((Tier.access t key).1).first := by
      simp only [ha, hae, Tier.zero, Tier.touch]
    have hr3 : ([] : List Int) = ((Tier.access t key).1).rest := by
      simp only [ha, hae, Tier.zero, Tier.touch]
    have hr4 : (0 : Int) = ((Tier.access t key).2.1) := by
      simp only [ha, hae, Tier.zero, Tier.touch]
    have hr5 : (0 : Int) = ((Tier.access t key).2.2) := by
      simp only [ha, hae, Tier.zero, Tier.touch]
    have hr6 : (3 : Int) = (Tier.accessErr t key) := by
      simp only [ha, hae, Tier.zero, Tier.touch]
    refine q_endM (p := (none, 0, none, 0)) (fun _ => False) (rt4 rfl (r_cell (i := 0) rfl rfl sh43 rfl) (r_tmp rfl) (r_tmp rfl) (r_tmp rfl)) (i := 2) rfl ?_ ?_ ?_
    · exact (by have hcc := congr (congr (congr (congr (congr (congr (congrArg (fun (y0 : Int) (y1 : Int) (y2 : List Int) (y3 : List Int) (y4 : Int) (y5 : Int) (y6 : Int) => (.tuple #[.agg #[.int .i64 y0, .int .i64 y1, .slice none y2.length 0, .slice none y3.length 0], .int .i64 y4, .int .i64 y5, .int .i64 y6] : Value)) hr0) hr1) hr2) hr3) hr4) hr5) hr6; exact hcc)
    · intro w hw b hb; exact hb.elim
    · intro w hw; exact ⟨Eq.mp (congrArg (fun y => SlR tInt _ w none 0 y) hr2) (SlR.nil tInt _ w), Eq.mp (congrArg (fun y => SlR tInt _ w none 0 y) hr3) (SlR.nil tInt _ w)⟩
  · simp only [Bool.and_eq_false_iff, beq_eq_false_iff_ne, ne_eq, Bool.not_eq_false'] at hc4
    have hro := hc4
    refine c_skip ?_
    refine q_then ?_
    refine c_seq ?_
    refine c_seq ?_
    refine c_region ?_
    refine o_pure (p_move (v := .int .i64 (Tier.check t)) rfl) rfl rfl rfl ?_
    refine o_pure (p_ne (p := (Tier.check t)) (q := 0) rfl rfl) rfl rfl rfl ?_
    refine o_nil ?_
    refine q_then ?_
    refine c_cond (b := ((Tier.check t) != 0)) rfl (fun hc5 => ?_) (fun hc5 => ?_)
    · simp only [bne_iff_ne, ne_eq] at hc5
      refine c_seq ?_
      refine c_region ?_
      refine o_pure (p_build (cells := [.int .i64 0, .int .i64 0, .slice none 0 0, .slice none 0 0]) fp43 ze43 rfl rfl) rfl rfl rfl ?_
      refine o_pure (p_move (v := .int .i64 (Tier.check t)) rfl) rfl rfl rfl ?_
      refine o_storeN (i := 0) (vs := [.int .i64 0, .int .i64 0, .slice none 0 0, .slice none 0 0]) (cs' := [.int .i64 0, .int .i64 0, .slice none 0 0, .slice none 0 0]) rfl rfl rfl sz43 rfl rfl rfl rfl ?_
      refine o_pure (p_assign (v := .int .i64 0) rfl) rfl rfl rfl ?_
      refine o_pure (p_assign (v := .int .i64 0) rfl) rfl rfl rfl ?_
      refine o_pure (p_assign (v := .int .i64 (Tier.check t)) rfl) rfl rfl rfl ?_
      refine o_nil ?_
      refine q_then ?_
      refine c_ret ?_
      refine q_then_ret ?_
      obtain ⟨ha, hae⟩ : _ ∧ _ := by first | exact Tier.acc2 (c := t) (key := key) hbad.1 hbad.2 | exact Tier.acc3 (c := t) (key := key) (by assumption) hkk | exact Tier.acc1 (c := t) (key := key) (by assumption)
      have hr0 : (0 : Int) = ((Tier.access t key).1).near := by
        simp only [ha, hae, Tier.zero, Tier.touch]
      have hr1 : (0 : Int) = ((Tier.access t key).1).far := by
        simp only [ha, hae, Tier.zero, Tier.touch]
      have hr2 : ([] : List Int) = ((Tier.access t key).1).first := by
        simp only [ha, hae, Tier.zero, Tier.touch]
      have hr3 : ([] : List Int) = ((Tier.access t key).1).rest := by
        simp only [ha, hae, Tier.zero, Tier.touch]
      have hr4 : (0 : Int) = ((Tier.access t key).2.1) := by
        simp only [ha, hae, Tier.zero, Tier.touch]
      have hr5 : (0 : Int) = ((Tier.access t key).2.2) := by
        simp only [ha, hae, Tier.zero, Tier.touch]
      have hr6 : ((Tier.check t) : Int) = (Tier.accessErr t key) := by
        simp only [ha, hae, Tier.zero, Tier.touch]
      refine q_endM (p := (none, 0, none, 0)) (fun _ => False) (rt4 rfl (r_cell (i := 0) rfl rfl sh43 rfl) (r_tmp rfl) (r_tmp rfl) (r_tmp rfl)) (i := 2) rfl ?_ ?_ ?_
      · exact (by have hcc := congr (congr (congr (congr (congr (congr (congrArg (fun (y0 : Int) (y1 : Int) (y2 : List Int) (y3 : List Int) (y4 : Int) (y5 : Int) (y6 : Int) => (.tuple #[.agg #[.int .i64 y0, .int .i64 y1, .slice none y2.length 0, .slice none y3.length 0], .int .i64 y4, .int .i64 y5, .int .i64 y6] : Value)) hr0) hr1) hr2) hr3) hr4) hr5) hr6; exact hcc)
      · intro w hw b hb; exact hb.elim
      · intro w hw; exact ⟨Eq.mp (congrArg (fun y => SlR tInt _ w none 0 y) hr2) (SlR.nil tInt _ w), Eq.mp (congrArg (fun y => SlR tInt _ w none 0 y) hr3) (SlR.nil tInt _ w)⟩
    · simp only [bne_eq_false_iff_eq] at hc5
      have hck := hc5
      have hok := Tier.ok_of hck
      have hnr := hok.near
      have hfr := hok.far
      have hl1 := hok.len1
      have hl2 := hok.len2
      have hkk := hro.resolve_left (fun h => h hc5)
      refine c_skip ?_
      refine q_then ?_
      refine c_seq ?_
      refine c_region ?_
      refine o_pure (p_load_agg (i := 1) (vs := [.int .i64 t.near, .int .i64 t.far, .slice at_0 t.first.length ct_0, .slice at_1 t.rest.length ct_1]) rfl rfl sh43 rfl rfl) rfl rfl rfl ?_
      refine o_callX (pre := []) (R := [box B2 [.int .i64 0, .int .i64 0, .slice none 0 0, .slice none 0 0] 43, box B1 [.int .i64 t.near, .int .i64 t.far, .slice at_0 t.first.length ct_0, .slice at_1 t.rest.length ct_1] 43, base w0]) rfl (town_ok t at_0 ct_0 at_1 ct_1 (by omega)) hf59 rfl (fun w hw => ⟨(rdX (i := 2) (js := []) rfl (by decide) rfl (fun _ hA => slR_base ht_0 hA)) w hw, (rdX (i := 2) (js := []) rfl (by decide) rfl (fun _ hA => slR_base ht_1 hA)) w hw⟩) rfl ?_
      rintro ⟨B6, a7, c8, S9, a10, c11, S12⟩
      refine o_asH (H' := [box B6 [.int .i64 t.near, .int .i64 t.far, .slice a7 t.first.length c8, .slice a10 t.rest.length c11] 43, own tInt S9 a7 c8 t.first, own tInt S12 a10 c11 t.rest, box B2 [.int .i64 0, .int .i64 0, .slice none 0 0, .slice none 0 0] 43, box B1 [.int .i64 t.near, .int .i64 t.far, .slice at_0 t.first.length ct_0, .slice at_1 t.rest.length ct_1] 43, base w0]) rfl ?_
      refine o_pure (p_assign (v := .pointer (some ⟨B6, 0, none⟩)) rfl) rfl rfl rfl ?_
      refine o_nil ?_
      refine q_then ?_
      refine c_seq ?_
      refine c_region ?_
      refine o_pure (p_move (v := .pointer (some ⟨B6, 0, none⟩)) rfl) rfl rfl rfl ?_
      refine o_pure (p_move (v := .int .i64 key) rfl) rfl rfl rfl ?_
      refine o_callX (pre := [box B6 [.int .i64 t.near, .int .i64 t.far, .slice a7 t.first.length c8, .slice a10 t.rest.length c11] 43, own tInt S9 a7 c8 t.first, own tInt S12 a10 c11 t.rest]) (R := [box B2 [.int .i64 0, .int .i64 0, .slice none 0 0, .slice none 0 0] 43, box B1 [.int .i64 t.near, .int .i64 t.far, .slice at_0 t.first.length ct_0, .slice at_1 t.rest.length ct_1] 43, base w0]) rfl (ttouch_ok t B6 a7 c8 S9 a10 c11 S12 key (by first | assumption | exact hI.1.ok | exact hI.ok | omega)) hf60 rfl (fun _ _ => trivial) rfl ?_
      rintro ⟨a15, c16, S17, a18, c19, S20⟩
      refine o_asH (H' := [box B6 [.int .i64 (((Tier.touch t key).1).near), .int .i64 (((Tier.touch t key).1).far), .slice a15 (((Tier.touch t key).1).first).length c16, .slice a18 (((Tier.touch t key).1).rest).length c19] 43, own tInt S17 a15 c16 (((Tier.touch t key).1).first), own tInt S20 a18 c19 (((Tier.touch t key).1).rest), box B2 [.int .i64 0, .int .i64 0, .slice none 0 0, .slice none 0 0] 43, box B1 [.int .i64 t.near, .int .i64 t.far, .slice at_0 t.first.length ct_0, .slice at_1 t.rest.length ct_1] 43, base w0]) rfl ?_
      refine o_pure (p_move (v := .tuple #[.int .i64 (Tier.place t key), .int .i64 (Tier.gone t key)]) rfl) rfl rfl rfl ?_
      refine o_pure (p_extract (vs := [.int .i64 (Tier.place t key), .int .i64 (Tier.gone t key)]) (v := .int .i64 (Tier.place t key)) rfl rfl) rfl rfl rfl ?_
      refine o_pure (p_extract (vs := [.int .i64 (Tier.place t key), .int .i64 (Tier.gone t key)]) (v := .int .i64 (Tier.gone t key)) rfl rfl) rfl rfl rfl ?_
      refine o_pure (p_assign (v := .int .i64 (Tier.place t key)) rfl) rfl rfl rfl ?_
      refine o_pure (p_assign (v := .int .i64 (Tier.gone t key)) rfl) rfl rfl rfl ?_
      refine o_nil ?_
      refine q_then ?_
      refine c_seq ?_
      refine c_region ?_
      refine o_pure (p_move (v := .pointer (some ⟨B6, 0, none⟩)) rfl) rfl rfl rfl ?_
      refine o_pure (p_nilCheck rfl) rfl rfl rfl ?_
      refine o_pure (p_load_agg (i := 0) (vs := [.int .i64 (((Tier.touch t key).1).near), .int .i64 (((Tier.touch t key).1).far), .slice a15 (((Tier.touch t key).1).first).length c16, .slice a18 (((Tier.touch t key).1).rest).length c19]) rfl rfl sh43 rfl rfl) rfl rfl rfl ?_
      refine o_pure (p_move (v := .int .i64 (Tier.place t key)) rfl) rfl rfl rfl ?_
      refine o_pure (p_move (v := .int .i64 (Tier.gone t key)) rfl) rfl rfl rfl ?_
      refine o_storeN (i := 3) (vs := [.int .i64 (((Tier.touch t key).1).near), .int .i64 (((Tier.touch t key).1).far), .slice a15 (((Tier.touch t key).1).first).length c16, .slice a18 (((Tier.touch t key).1).rest).length c19]) (cs' := [.int .i64 (((Tier.touch t key).1).near), .int .i64 (((Tier.touch t key).1).far), .slice a15 (((Tier.touch t key).1).first).length c16, .slice a18 (((Tier.touch t key).1).rest).length c19]) rfl rfl rfl sz43 rfl rfl rfl rfl ?_
      refine o_pure (p_assign (v := .int .i64 (Tier.place t key)) rfl) rfl rfl rfl ?_
      refine o_pure (p_assign (v := .int .i64 (Tier.gone t key)) rfl) rfl rfl rfl ?_
      refine o_pure (p_assign (v := .int .i64 0) rfl) rfl rfl rfl ?_
      refine o_nil ?_
      refine q_then ?_
      refine c_ret ?_
      obtain ⟨ha, hae⟩ : _ ∧ _ := by first | exact Tier.acc2 (c := t) (key := key) hbad.1 hbad.2 | exact Tier.acc3 (c := t) (key := key) (by assumption) hkk | exact Tier.acc1 (c := t) (key := key) (by assumption)
      have hr0 : (((Tier.touch t key).1).near : Int) = ((Tier.access t key).1).near := by
        simp only [ha, hae, Tier.zero, Tier.touch]
      have hr1 : (((Tier.touch t key).1).far : Int) = ((Tier.access t key).1).far := by
        simp only [ha, hae, Tier.zero, Tier.touch]
      have hr2 : (((Tier.touch t key).1).first : List Int) = ((Tier.access t key).1).first := by
        simp only [ha, hae, Tier.zero, Tier.touch]
      have hr3 : (((Tier.touch t key).1).rest : List Int) = ((Tier.access t key).1).rest := by
        simp only [ha, hae, Tier.zero, Tier.touch]
      have hr4 : ((Tier.place t key) : Int) = ((Tier.access t key).2.1) := by
        simp only [ha, hae, Tier.zero, Tier.touch]
      have hr5 : ((Tier.gone t key) : Int) = ((Tier.access t key).2.2) := by
        simp only [ha, hae, Tier.zero, Tier.touch]
      have hr6 : (0 : Int) = (Tier.accessErr t key) := by
        simp only [ha, hae, Tier.zero, Tier.touch]
      refine q_endM (p := (a15, c16, a18, c19)) (fun b => S17 b ∨ S20 b) (rt4 rfl (r_cell (i := 3) rfl rfl sh43 rfl) (r_tmp rfl) (r_tmp rfl) (r_tmp rfl)) (i := 5) rfl ?_ ?_ ?_
      · exact (by have hcc := congr (congr (congr (congr (congr (congr (congrArg (fun (y0 : Int) (y1 : Int) (y2 : List Int) (y3 : List Int) (y4 : Int) (y5 : Int) (y6 : Int) => (.tuple #[.agg #[.int .i64 y0, .int .i64 y1, .slice a15 y2.length c16, .slice a18 y3.length c19], .int .i64 y4, .int .i64 y5, .int .i64 y6] : Value)) hr0) hr1) hr2) hr3) hr4) hr5) hr6; exact hcc)
      · intro w hw b hb; rcases hb with hb | hb
        · exact hw.above (i := 5) (j := 1) (by decide) rfl rfl b hb
        · exact hw.above (i := 5) (j := 2) (by decide) rfl rfl b hb
      · intro w hw; exact ⟨Eq.mp (congrArg (fun y => SlR tInt _ w a15 c16 y) hr2) (SlR.mono (fun b hb => by simp [hb]) (SlO.toR (hw.at (i := 1) rfl).here)), Eq.mp (congrArg (fun y => SlR tInt _ w a18 c19 y) hr3) (SlR.mono (fun b hb => by simp [hb]) (SlO.toR (hw.at (i := 2) rfl).here))⟩

set_option maxHeartbeats 8000000 in
set_option maxRecDepth 100000 in
theorem trun_ok (t : DTiers) (at_0 : Option Addr) (ct_0 : Nat) (at_1 : Option Addr) (ct_1 : Nat) (l : List Int) (al : Option Addr) (cl : Nat) : FnM Try.prog 28 [.agg #[.int .i64 t.near, .int .i64 t.far, .slice at_0 t.first.length ct_0, .slice at_1 t.rest.length ct_1], .slice al l.length cl] (fun w => Rd tInt w at_0 ct_0 t.first ∧ Rd tInt w at_1 ct_1 t.rest ∧ Rd tInt w al cl l) (Option Addr × Nat × Option Addr × Nat) (fun p => .tuple #[.agg #[.int .i64 (((Tier.run t l).1).near), .int .i64 (((Tier.run t l).1).far), .slice p.1 (((Tier.run t l).1).first).length p.2.1, .slice p.2.2.1 (((Tier.run t l).1).rest).length p.2.2.2], .int .i64 ((Tier.run t l).2.1), .int .i64 ((Tier.run t l).2.2), .int .i64 (Tier.runErr t l)]) (fun p S w => SlR tInt S w p.1 p.2.1 (((Tier.run t l).1).first) ∧ SlR tInt S w p.2.2.1 p.2.2.2 (((Tier.run t l).1).rest)) := by
  refine fnM (nt := 52) (F0 := [(0, .agg #[.int .i64 t.near, .int .i64 t.far, .slice at_0 t.first.length ct_0, .slice at_1 t.rest.length ct_1]), (1, .slice al l.length cl)]) Try.func28 rfl Try.ntmps28 rfl rfl (fun w0 hpre => ?_)
  obtain ⟨ht_0, ht_1, hl⟩ := hpre
  have hlht_0 := ht_0.2.1
  have hlht_1 := ht_1.2.1
  have hlhl := hl.2.1
  refine c_seq ?_
  refine c_region ?_
  refine o_box (v := .agg #[.int .i64 t.near, .int .i64 t.far, .slice at_0 t.first.length ct_0, .slice at_1 t.rest.length ct_1]) rfl rfl (fun B1 => ?_)
  refine o_alloc ze43 rfl (fun B2 => ?_)
  refine o_pure (p_assign (v := .int .i64 0) rfl) rfl rfl rfl ?_
  refine o_pure (p_assign (v := .int .i64 0) rfl) rfl rfl rfl ?_
  refine o_pure (p_assign (v := .int .i64 0) rfl) rfl rfl rfl ?_
  refine o_nil ?_
  refine q_then ?_
  refine c_seq ?_
  refine c_region ?_
  refine o_pure (p_load_agg (i := 1) (vs := [.int .i64 t.near, .int .i64 t.far, .slice at_0 t.first.length ct_0, .slice at_1 t.rest.length ct_1]) rfl rfl sh43 rfl rfl) rfl rfl rfl ?_
  refine o_call0 (v := .int .i64 (Tier.check t)) rfl (tcheck_ok t at_0 ct_0 at_1 ct_1) hf34 (fun w hw => ⟨(rd_base (i := 2) rfl ht_0) w hw, (rd_base (i := 2) rfl ht_1) w hw⟩) rfl ?_
  refine o_pure (p_assign (v := .int .i64 (Tier.check t)) rfl) rfl rfl rfl ?_
  refine o_nil ?_
  refine q_then ?_
  refine c_seq ?_
  refine c_seq ?_
  refine c_region ?_
  refine o_pure (p_move (v := .int .i64 (Tier.check t)) rfl) rfl rfl rfl ?_
  refine o_pure (p_eq (p := (Tier.check t)) (q := 0) rfl rfl) rfl rfl rfl ?_
  refine o_nil ?_
  refine q_then ?_
  refine c_cond (b := ((Tier.check t) == 0)) rfl (fun hc3 => ?_) (fun hc3 => ?_)
  · simp only [beq_iff_eq] at hc3
    have hck := hc3
    have hok := Tier.ok_of hck
    have hnr := hok.near
    have hfr := hok.far
    have hl1 := hok.len1
    have hl2 := hok.len2
    refine c_region ?_
    refine o_pure (p_move (v := .slice al l.length cl) rfl) rfl rfl rfl ?_
    refine o_call0 (v := .int .i64 (Lru.trace l)) rfl (checkTrace_ok l al cl) hf61 (fun w hw => (rd_base (i := 2) rfl hl) w hw) rfl ?_
    refine o_pure (p_assign (v := .int .i64 (Lru.trace l)) rfl) rfl rfl rfl ?_
    refine o_nil ?_
    refine q_then ?_
    refine c_seq ?_
    refine c_seq ?_
    refine c_region ?_
    refine o_pure (p_move (v := .int .i64 (Lru.trace l)) rfl) rfl rfl rfl ?_
    refine o_pure (p_ne (p := (Lru.trace l)) (q := 0) rfl rfl) rfl rfl rfl ?_
    refine o_nil ?_
    refine q_then ?_
    refine c_cond (b := ((Lru.trace l) != 0)) rfl (fun hc4 => ?_) (fun hc4 => ?_)
    · simp only [bne_iff_ne, ne_eq] at hc4
      refine c_seq ?_
      refine c_region ?_
      refine o_pure (p_build (cells := [.int .i64 0, .int .i64 0, .slice none 0 0, .slice none 0 0]) fp43 ze43 rfl rfl) rfl rfl rfl ?_
      refine o_pure (p_move (v := .int .i64 (Lru.trace l)) rfl) rfl rfl rfl ?_
      refine o_storeN (i := 0) (vs := [.int .i64 0, .int .i64 0, .slice none 0 0, .slice none 0 0]) (cs' := [.int .i64 0, .int .i64 0, .slice none 0 0, .slice none 0 0]) rfl rfl rfl sz43 rfl rfl rfl rfl ?_
      refine o_pure (p_assign (v := .int .i64 0) rfl) rfl rfl rfl ?_
      refine o_pure (p_assign (v := .int .i64 0) rfl) rfl rfl rfl ?_
      refine o_pure (p_assign (v := .int .i64 (Lru.trace l)) rfl) rfl rfl rfl ?_
      refine o_nil ?_
      refine q_then ?_
      refine c_ret ?_
      refine q_then_ret ?_
      obtain ⟨ha, hae⟩ : _ ∧ _ := by first | exact Tier.run1 (c := t) (l := l) (by assumption) | exact Tier.run2 (c := t) (l := l) (by assumption) (by assumption) | exact Tier.run3 (c := t) (l := l) (by assumption) (by assumption)
      have hr0 : (0 : Int) = ((Tier.run t l).1).near := by
        first | (simp only [ha, hae, Tier.zero]; done) | (simp only [ha, hdn]; done)
      have hr1 : (0 : Int) = ((Tier.run t l).1).far := by
        first | (simp only [ha, hae, Tier.zero]; done) | (simp only [ha, hdn]; done)
      have hr2 : ([] : List Int) = ((Tier.run t l).1).first := by
        first | (simp only [ha, hae, Tier.zero]; done) | (simp only [ha, hdn]; done)
      have hr3 : ([] : List Int) = ((Tier.run t l).1).rest := by
        first | (simp only [ha, hae, Tier.zero]; done) | (simp only [ha, hdn]; done)
      have hr4 : (0 : Int) = ((Tier.run t l).2.1) := by
        first | (simp only [ha, hae, Tier.zero]; done) | (simp only [ha, hdn]; done)
      have hr5 : (0 : Int) = ((Tier.run t l).2.2) := by
        first | (simp only [ha, hae, Tier.zero]; done) | (simp only [ha, hdn]; done)
      have hr6 : ((Lru.trace l) : Int) = (Tier.runErr t l) := by
        first | (simp only [ha, hae, Tier.zero]; done) | (simp only [ha, hdn]; done)
      refine q_endM (p := (none, 0, none, 0)) (fun _ => False) (rt4 rfl (r_cell (i := 0) rfl rfl sh43 rfl) (r_tmp rfl) (r_tmp rfl) (r_tmp rfl)) (i := 2) rfl ?_ ?_ ?_
      · exact (by have hcc := congr (congr (congr (congr (congr (congr (congrArg (fun (y0 : Int) (y1 : Int) (y2 : List Int) (y3 : List Int) (y4 : Int) (y5 : Int) (y6 : Int) => (.tuple #[.agg #[.int .i64 y0, .int .i64 y1, .slice none y2.length 0, .slice none y3.length 0], .int .i64 y4, .int .i64 y5, .int .i64 y6] : Value)) hr0) hr1) hr2) hr3) hr4) hr5) hr6; exact hcc)
      · intro w hw b hb; exact hb.elim
      · intro w hw; exact ⟨Eq.mp (congrArg (fun y => SlR tInt _ w none 0 y) hr2) (SlR.nil tInt _ w), Eq.mp (congrArg (fun y => SlR tInt _ w none 0 y) hr3) (SlR.nil tInt _ w)⟩
    · simp only [bne_eq_false_iff_eq] at hc4
      have htr := hc4
      have hkeys := (Lru.trace_ok.1 hc4).2
      refine c_skip ?_
      refine q_then ?_
      refine c_seq ?_
      refine c_region ?_
      refine o_pure (p_load_agg (i := 1) (vs := [.int .i64 t.near, .int .i64 t.far, .slice at_0 t.first.length ct_0, .slice at_1 t.rest.length ct_1]) rfl rfl sh43 rfl rfl) rfl rfl rfl ?_
      refine o_callX (pre := []) (R := [box B2 [.int .i64 0, .int .i64 0, .slice none 0 0, .slice none 0 0] 43, box B1 [.int .i64 t.near, .int .i64 t.far, .slice at_0 t.first.length ct_0, .slice at_1 t.rest.length ct_1] 43, base w0]) rfl (town_ok t at_0 ct_0 at_1 ct_1 (by omega)) hf59 rfl (fun w hw => ⟨(rdX (i := 2) (js := []) rfl (by decide) rfl (fun _ hA => slR_base ht_0 hA)) w hw, (rdX (i := 2) (js := []) rfl (by decide) rfl (fun _ hA => slR_base ht_1 hA)) w hw⟩) rfl ?_
      rintro ⟨B5, a6, c7, S8, a9, c10, S11⟩
      refine o_asH (H' := [box B5 [.int .i64 t.near, .int .i64 t.far, .slice a6 t.first.length c7, .slice a9 t.rest.length c10] 43, own tInt S8 a6 c7 t.first, own tInt S11 a9 c10 t.rest, box B2 [.int .i64 0, .int .i64 0, .slice none 0 0, .slice none 0 0] 43, box B1 [.int .i64 t.near, .int .i64 t.far, .slice at_0 t.first.length ct_0, .slice at_1 t.rest.length ct_1] 43, base w0]) rfl ?_
      refine o_pure (p_assign (v := .pointer (some ⟨B5, 0, none⟩)) rfl) rfl rfl rfl ?_
      refine o_nil ?_
      refine q_then ?_
      refine c_seq ?_
      refine c_region ?_
      refine o_alloc ze96 rfl (fun B14 => ?_)
      refine o_nil ?_
      refine q_then ?_
      refine c_seq ?_
      refine c_seq ?_
      refine c_region ?_
      refine o_pure (p_move (v := .slice al l.length cl) rfl) rfl rfl rfl ?_
      refine o_pure (p_len_slice (len := l.length) rfl rfl Try.underlying23) rfl rfl rfl ?_
      refine o_pure (p_move (v := .int .i64 0) rfl) rfl rfl rfl ?_
      refine o_nil ?_
      refine q_then ?_
      refine c_block ?_
      refine c_loop (St := Nat × Int × Int × Int × DTiers × Option Addr × Nat × (Nat → Prop) × Option Addr × Nat × (Nat → Prop))
        (fun ⟨k, m0, m1, m2, tt, att_0, ctt_0, Stt_0, att_1, ctt_1, Stt_1⟩ => [(4, .pointer (some ⟨B2, 0, none⟩)), (9, .pointer (some ⟨B5, 0, none⟩)), (10, .pointer (some ⟨B14, 0, none⟩)), (27, .slice al l.length cl), (28, .int .i64 (l.length : Int)), (29, .int .i64 (k : Int))])
        (fun ⟨k, m0, m1, m2, tt, att_0, ctt_0, Stt_0, att_1, ctt_1, Stt_1⟩ => [box B14 [.int .i64 m0, .int .i64 m1, .int .i64 m2] 96, box B5 [.int .i64 tt.near, .int .i64 tt.far, .slice att_0 tt.first.length ctt_0, .slice att_1 tt.rest.length ctt_1] 43, own tInt Stt_0 att_0 ctt_0 tt.first, own tInt Stt_1 att_1 ctt_1 tt.rest, box B2 [.int .i64 0, .int .i64 0, .slice none 0 0, .slice none 0 0] 43, box B1 [.int .i64 t.near, .int .i64 t.far, .slice at_0 t.first.length ct_0, .slice at_1 t.rest.length ct_1] 43, base w0])
        (fun ⟨k, m0, m1, m2, tt, att_0, ctt_0, Stt_0, att_1, ctt_1, Stt_1⟩ => Tier.RInv t tt l m1 m2 k ∧ 0 ≤ m0 ∧ m0 ≤ (k : Int) ∧ l.length ≤ 200)
        (fun ⟨k, m0, m1, m2, tt, att_0, ctt_0, Stt_0, att_1, ctt_1, Stt_1⟩ => l.length - k)
        (0, 0, 0, 0, t, a6, c7, S8, a9, c10, S11) ?_ (Sub.cons rfl (Sub.cons rfl (Sub.cons rfl (Sub.cons rfl (Sub.cons rfl (Sub.cons rfl (Sub.nil _))))))) (fun _ hw => hw) ?_
      · exact ⟨Tier.RInv.start hok hkeys, Int.le_refl _, Int.le_refl _, (Lru.trace_ok.1 htr).1⟩
      rintro ⟨k, m0, m1, m2, tt, att_0, ctt_0, Stt_0, att_1, ctt_1, Stt_1⟩ hI K hK15
      obtain ⟨hI, hm0, hm1, hl200⟩ := hI
      have hn0 := hI.n0
      have hm20 := hI.m0
      have hI := And.intro hI True.intro
      show SC _ _ Try.prog 52 w0 _ _ [(4, .pointer (some ⟨B2, 0, none⟩)), (9, .pointer (some ⟨B5, 0, none⟩)), (10, .pointer (some ⟨B14, 0, none⟩)), (27, .slice al l.length cl), (28, .int .i64 (l.length : Int)), (29, .int .i64 (k : Int))] [box B14 [.int .i64 m0, .int .i64 m1, .int .i64 m2] 96, box B5 [.int .i64 tt.near, .int .i64 tt.far, .slice att_0 tt.first.length ctt_0, .slice att_1 tt.rest.length ctt_1] 43, own tInt Stt_0 att_0 ctt_0 tt.first, own tInt Stt_1 att_1 ctt_1 tt.rest, box B2 [.int .i64 0, .int .i64 0, .slice none 0 0, .slice none 0 0] 43, box B1 [.int .i64 t.near, .int .i64 t.far, .slice at_0 t.first.length ct_0, .slice at_1 t.rest.length ct_1] 43, base w0]
      refine c_seq ?_
      refine c_region ?_
      refine o_pure (p_lt (p := (k : Int)) (q := (l.length : Int)) rfl rfl) rfl rfl rfl ?_
      refine o_nil ?_
      refine q_then ?_
      refine c_seq ?_
      refine c_cond (b := decide ((k : Int) < (l.length : Int))) rfl (fun hc16 => ?_) (fun hc16 => ?_)
      · simp only [decide_eq_true_eq] at hc16
        refine c_skip ?_
        refine q_then ?_
        refine c_seq ?_
        refine c_block ?_
        refine c_seq ?_
        refine c_region ?_
        refine o_pure (p_indexAddr (L := l) (T := tInt) (i := (k : Int)) rfl rfl (rd_base (i := 6) rfl hl) Try.underlying23 sz3 (by omega) (by omega)) rfl rfl rfl ?_
        refine o_pure (p_loadE1 (i := k) (T := tInt) (L := l) (v := .int .i64 (l[k])) rfl (rd_base (i := 6) rfl hl) (by first | assumption | omega) sh3 rfl) rfl rfl rfl ?_
        refine o_pure (p_assign (v := .int .i64 (l[k])) rfl) rfl rfl rfl ?_
        refine o_nil ?_
        refine q_then ?_
        refine c_seq ?_
        refine c_region ?_
        refine o_pure (p_move (v := .pointer (some ⟨B5, 0, none⟩)) rfl) rfl rfl rfl ?_
        refine o_pure (p_move (v := .int .i64 (l[k])) rfl) rfl rfl rfl ?_
        refine o_pick (H' := [box B5 [.int .i64 tt.near, .int .i64 tt.far, .slice att_0 tt.first.length ctt_0, .slice att_1 tt.rest.length ctt_1] 43, own tInt Stt_0 att_0 ctt_0 tt.first, own tInt Stt_1 att_1 ctt_1 tt.rest, box B14 [.int .i64 m0, .int .i64 m1, .int .i64 m2] 96, box B2 [.int .i64 0, .int .i64 0, .slice none 0 0, .slice none 0 0] 43, box B1 [.int .i64 t.near, .int .i64 t.far, .slice at_0 t.first.length ct_0, .slice at_1 t.rest.length ct_1] 43, base w0]) [1, 2, 3, 0, 4, 5, 6] (by decide) rfl ?_
        refine o_callX (pre := [box B5 [.int .i64 tt.near, .int .i64 tt.far, .slice att_0 tt.first.length ctt_0, .slice att_1 tt.rest.length ctt_1] 43, own tInt Stt_0 att_0 ctt_0 tt.first, own tInt Stt_1 att_1 ctt_1 tt.rest]) (R := [box B14 [.int .i64 m0, .int .i64 m1, .int .i64 m2] 96, box B2 [.int .i64 0, .int .i64 0, .slice none 0 0, .slice none 0 0] 43, box B1 [.int .i64 t.near, .int .i64 t.far, .slice at_0 t.first.length ct_0, .slice at_1 t.rest.length ct_1] 43, base w0]) rfl (ttouch_ok tt B5 att_0 ctt_0 Stt_0 att_1 ctt_1 Stt_1 (l[k]) (by first | assumption | exact hI.1.ok | exact hI.ok | omega)) hf60 rfl (fun _ _ => trivial) rfl ?_
        rintro ⟨a17, c18, S19, a20, c21, S22⟩
        refine o_asH (H' := [box B5 [.int .i64 (((Tier.touch tt (l[k])).1).near), .int .i64 (((Tier.touch tt (l[k])).1).far), .slice a17 (((Tier.touch tt (l[k])).1).first).length c18, .slice a20 (((Tier.touch tt (l[k])).1).rest).length c21] 43, own tInt S19 a17 c18 (((Tier.touch tt (l[k])).1).first), own tInt S22 a20 c21 (((Tier.touch tt (l[k])).1).rest), box B14 [.int .i64 m0, .int .i64 m1, .int .i64 m2] 96, box B2 [.int .i64 0, .int .i64 0, .slice none 0 0, .slice none 0 0] 43, box B1 [.int .i64 t.near, .int .i64 t.far, .slice at_0 t.first.length ct_0, .slice at_1 t.rest.length ct_1] 43, base w0]) rfl ?_
        refine o_pure (p_move (v := .tuple #[.int .i64 (Tier.place tt (l[k])), .int .i64 (Tier.gone tt (l[k]))]) rfl) rfl rfl rfl ?_
        refine o_pure (p_extract (vs := [.int .i64 (Tier.place tt (l[k])), .int .i64 (Tier.gone tt (l[k]))]) (v := .int .i64 (Tier.place tt (l[k]))) rfl rfl) rfl rfl rfl ?_
        refine o_pure (p_extract (vs := [.int .i64 (Tier.place tt (l[k])), .int .i64 (Tier.gone tt (l[k]))]) (v := .int .i64 (Tier.gone tt (l[k]))) rfl rfl) rfl rfl rfl ?_
        refine o_pure (p_assign (v := .int .i64 (Tier.place tt (l[k]))) rfl) rfl rfl rfl ?_
        refine o_pure (p_assign (v := .int .i64 (Tier.gone tt (l[k]))) rfl) rfl rfl rfl ?_
        refine o_nil ?_
        refine q_then ?_
        rcases (Tier.place_is tt l[k]) with e_ | e_ | e_
        · rw [e_]
          refine c_region ?_
          refine o_pure (p_move (v := .int .i64 0) rfl) rfl rfl rfl ?_
          refine o_pure (p_indexAddrA (B := B14) (j := 0) (j' := 0) (i := 0) rfl rfl Try.underlying96 sz3 (by decide) rfl) rfl rfl rfl ?_
          refine o_pure (p_load (i := 3) (v := .int .i64 m0) rfl rfl sh3 rfl) rfl rfl rfl ?_
          refine o_pure (p_addb (p := m0) (q := 1) rfl rfl (by omega)) rfl rfl rfl ?_
          refine o_pure (p_indexAddrA (B := B14) (j := 0) (j' := 0) (i := 0) rfl rfl Try.underlying96 sz3 (by decide) rfl) rfl rfl rfl ?_
          refine o_store (i := 3) (v := .int .i64 (m0 + 1)) (cs' := [.int .i64 (m0 + 1), .int .i64 m1, .int .i64 m2]) rfl rfl rfl sz3 rfl rfl rfl ?_
          refine o_nil ?_
          refine q_block_normal (q_then ?_)
          refine c_region ?_
          refine o_pure (p_addb (p := (k : Int)) (q := 1) rfl rfl (by omega)) rfl rfl rfl ?_
          refine o_pure (p_move (v := .int .i64 ((k : Int) + 1)) rfl) rfl rfl rfl ?_
          refine o_nil ?_
          refine q_round hK15 (k + 1, (m0 + 1), m1, m2, ((Tier.touch tt (l[k])).1), a17, c18, S19, a20, c21, S22) ?_ ?_ ?_ ?_
          · clear hK15
            first | exact ⟨hI.1.zero (by omega) e_, by omega, by omega, hl200⟩ | exact ⟨hI.1.one (by omega) e_, by omega, by omega, hl200⟩ | exact ⟨hI.1.two (by omega) e_, by omega, by omega, hl200⟩
          · (try dsimp only); omega
          · exact Sub.cons rfl (Sub.cons rfl (Sub.cons rfl (Sub.cons rfl (Sub.cons rfl (Sub.cons rfl (Sub.nil _))))))
          · exact fun _ hw => HeapIs.pick hw [3, 0, 1, 2, 4, 5, 6] (by decide) rfl
        · rw [e_]
          refine c_region ?_
          refine o_pure (p_move (v := .int .i64 1) rfl) rfl rfl rfl ?_
          refine o_pure (p_indexAddrA (B := B14) (j := 0) (j' := 1) (i := 1) rfl rfl Try.underlying96 sz3 (by decide) rfl) rfl rfl rfl ?_
          refine o_pure (p_load (i := 3) (v := .int .i64 m1) rfl rfl sh3 rfl) rfl rfl rfl ?_
          refine o_pure (p_addb (p := m1) (q := 1) rfl rfl (by omega)) rfl rfl rfl ?_
          refine o_pure (p_indexAddrA (B := B14) (j := 0) (j' := 1) (i := 1) rfl rfl Try.underlying96 sz3 (by decide) rfl) rfl rfl rfl ?_
          refine o_store (i := 3) (v := .int .i64 (m1 + 1)) (cs' := [.int .i64 m0, .int .i64 (m1 + 1), .int .i64 m2]) rfl rfl rfl sz3 rfl rfl rfl ?_
          refine o_nil ?_
          refine q_block_normal (q_then ?_)
          refine c_region ?_
          refine o_pure (p_addb (p := (k : Int)) (q := 1) rfl rfl (by omega)) rfl rfl rfl ?_
          refine o_pure (p_move (v := .int .i64 ((k : Int) + 1)) rfl) rfl rfl rfl ?_
          refine o_nil ?_
          refine q_round hK15 (k + 1, m0, (m1 + 1), m2, ((Tier.touch tt (l[k])).1), a17, c18, S19, a20, c21, S22) ?_ ?_ ?_ ?_
          · clear hK15
            first | exact ⟨hI.1.zero (by omega) e_, by omega, by omega, hl200⟩ | exact ⟨hI.1.one (by omega) e_, by omega, by omega, hl200⟩ | exact ⟨hI.1.two (by omega) e_, by omega, by omega, hl200⟩
          · (try dsimp only); omega
          · exact Sub.cons rfl (Sub.cons rfl (Sub.cons rfl (Sub.cons rfl (Sub.cons rfl (Sub.cons rfl (Sub.nil _))))))
          · exact fun _ hw => HeapIs.pick hw [3, 0, 1, 2, 4, 5, 6] (by decide) rfl
        · rw [e_]
          refine c_region ?_
          refine o_pure (p_move (v := .int .i64 2) rfl) rfl rfl rfl ?_
          refine o_pure (p_indexAddrA (B := B14) (j := 0) (j' := 2) (i := 2) rfl rfl Try.underlying96 sz3 (by decide) rfl) rfl rfl rfl ?_
          refine o_pure (p_load (i := 3) (v := .int .i64 m2) rfl rfl sh3 rfl) rfl rfl rfl ?_
          refine o_pure (p_addb (p := m2) (q := 1) rfl rfl (by omega)) rfl rfl rfl ?_
          refine o_pure (p_indexAddrA (B := B14) (j := 0) (j' := 2) (i := 2) rfl rfl Try.underlying96 sz3 (by decide) rfl) rfl rfl rfl ?_
          refine o_store (i := 3) (v := .int .i64 (m2 + 1)) (cs' := [.int .i64 m0, .int .i64 m1, .int .i64 (m2 + 1)]) rfl rfl rfl sz3 rfl rfl rfl ?_
          refine o_nil ?_
          refine q_block_normal (q_then ?_)
          refine c_region ?_
          refine o_pure (p_addb (p := (k : Int)) (q := 1) rfl rfl (by omega)) rfl rfl rfl ?_
          refine o_pure (p_move (v := .int .i64 ((k : Int) + 1)) rfl) rfl rfl rfl ?_
          refine o_nil ?_
          refine q_round hK15 (k + 1, m0, m1, (m2 + 1), ((Tier.touch tt (l[k])).1), a17, c18, S19, a20, c21, S22) ?_ ?_ ?_ ?_
          · clear hK15
            first | exact ⟨hI.1.zero (by omega) e_, by omega, by omega, hl200⟩ | exact ⟨hI.1.one (by omega) e_, by omega, by omega, hl200⟩ | exact ⟨hI.1.two (by omega) e_, by omega, by omega, hl200⟩
          · (try dsimp only); omega
          · exact Sub.cons rfl (Sub.cons rfl (Sub.cons rfl (Sub.cons rfl (Sub.cons rfl (Sub.cons rfl (Sub.nil _))))))
          · exact fun _ hw => HeapIs.pick hw [3, 0, 1, 2, 4, 5, 6] (by decide) rfl
      · simp only [decide_eq_false_iff_not, Int.not_lt] at hc16
        have hdn := hI.1.done (by omega)
        refine c_exit ?_
        refine q_then_exit (q_then_exit (q_block_exit (q_then ?_)))
        refine c_seq ?_
        refine c_held hmix [box B14 [.int .i64 m0, .int .i64 m1, .int .i64 m2] 96, box B5 [.int .i64 tt.near, .int .i64 tt.far, .slice att_0 tt.first.length ctt_0, .slice att_1 tt.rest.length ctt_1] 43, own tInt Stt_0 att_0 ctt_0 tt.first, own tInt Stt_1 att_1 ctt_1 tt.rest, box B1 [.int .i64 t.near, .int .i64 t.far, .slice at_0 t.first.length ct_0, .slice at_1 t.rest.length ct_1] 43, base w0] rfl rfl ?_
        refine h_take (i := 0) (ls := #[true, false, false, false, false, false, false, false, false, false, false]) rfl (by kernel_rfl) (by kernel_rfl) (by kernel_rfl) (fun _ _ _ h => h) (p_move (v := .pointer (some ⟨B5, 0, none⟩)) rfl) rfl rfl rfl (fun _ hw => HeapIs.drop hw (List.Sublist.cons_cons _ (List.Sublist.cons_cons _ (List.Sublist.cons_cons _ (List.Sublist.cons_cons _ (List.Sublist.cons _ (List.Sublist.cons_cons _ (List.Sublist.cons_cons _ (List.Sublist.slnil))))))))) rfl ?_
        refine h_take (i := 1) (ls := #[true, true, false, false, false, false, false, false, false, false, false]) rfl (by kernel_rfl) (by kernel_rfl) (by kernel_rfl) (fun _ _ _ h => h) (p_nilCheck rfl) rfl rfl rfl (fun _ hw => HeapIs.drop hw (List.Sublist.cons_cons _ (List.Sublist.cons_cons _ (List.Sublist.cons_cons _ (List.Sublist.cons_cons _ (List.Sublist.cons _ (List.Sublist.cons_cons _ (List.Sublist.cons_cons _ (List.Sublist.slnil))))))))) rfl ?_
        refine h_take (i := 2) (ls := #[true, true, true, false, false, false, false, false, false, false, false]) rfl (by kernel_rfl) (by kernel_rfl) (by kernel_rfl) (fun _ _ _ h => h) (p_load_agg (i := 1) (vs := [.int .i64 tt.near, .int .i64 tt.far, .slice att_0 tt.first.length ctt_0, .slice att_1 tt.rest.length ctt_1]) rfl rfl sh43 rfl rfl) rfl rfl rfl (fun _ hw => HeapIs.drop hw (List.Sublist.cons_cons _ (List.Sublist.cons_cons _ (List.Sublist.cons_cons _ (List.Sublist.cons_cons _ (List.Sublist.cons _ (List.Sublist.cons_cons _ (List.Sublist.cons_cons _ (List.Sublist.slnil))))))))) rfl ?_
        refine h_take (i := 3) (ls := #[true, true, true, true, false, false, false, false, false, false, false]) rfl (by kernel_rfl) (by kernel_rfl) (by kernel_rfl) (fun _ _ _ h => h) (p_indexAddrA (B := B14) (j := 0) (j' := 1) (i := 1) rfl rfl Try.underlying96 sz3 (by decide) rfl) rfl rfl rfl (fun _ hw => HeapIs.drop hw (List.Sublist.cons_cons _ (List.Sublist.cons_cons _ (List.Sublist.cons_cons _ (List.Sublist.cons_cons _ (List.Sublist.cons _ (List.Sublist.cons_cons _ (List.Sublist.cons_cons _ (List.Sublist.slnil))))))))) rfl ?_
        refine h_take (i := 4) (ls := #[true, true, true, true, true, false, false, false, false, false, false]) rfl (by kernel_rfl) (by kernel_rfl) (by kernel_rfl) (fun _ _ _ h => h) (p_load (i := 0) (v := .int .i64 m1) rfl rfl sh3 rfl) rfl rfl rfl (fun _ hw => HeapIs.drop hw (List.Sublist.cons_cons _ (List.Sublist.cons_cons _ (List.Sublist.cons_cons _ (List.Sublist.cons_cons _ (List.Sublist.cons _ (List.Sublist.cons_cons _ (List.Sublist.cons_cons _ (List.Sublist.slnil))))))))) rfl ?_
        refine h_take (i := 5) (ls := #[true, true, true, true, true, true, false, false, false, false, false]) rfl (by kernel_rfl) (by kernel_rfl) (by kernel_rfl) (fun _ _ _ h => h) (p_indexAddrA (B := B14) (j := 0) (j' := 2) (i := 2) rfl rfl Try.underlying96 sz3 (by decide) rfl) rfl rfl rfl (fun _ hw => HeapIs.drop hw (List.Sublist.cons_cons _ (List.Sublist.cons_cons _ (List.Sublist.cons_cons _ (List.Sublist.cons_cons _ (List.Sublist.cons _ (List.Sublist.cons_cons _ (List.Sublist.cons_cons _ (List.Sublist.slnil))))))))) rfl ?_
        refine h_take (i := 6) (ls := #[true, true, true, true, true, true, true, false, false, false, false]) rfl (by kernel_rfl) (by kernel_rfl) (by kernel_rfl) (fun _ _ _ h => h) (p_load (i := 0) (v := .int .i64 m2) rfl rfl sh3 rfl) rfl rfl rfl (fun _ hw => HeapIs.drop hw (List.Sublist.cons_cons _ (List.Sublist.cons_cons _ (List.Sublist.cons_cons _ (List.Sublist.cons_cons _ (List.Sublist.cons _ (List.Sublist.cons_cons _ (List.Sublist.cons_cons _ (List.Sublist.slnil))))))))) rfl ?_
        refine h_one (i := 7) (ls := #[true, true, true, true, true, true, true, true, false, false, false]) (by kernel_rfl) rfl rfl ?_
        refine o_storeN (i := 4) (vs := [.int .i64 tt.near, .int .i64 tt.far, .slice att_0 tt.first.length ctt_0, .slice att_1 tt.rest.length ctt_1]) (cs' := [.int .i64 tt.near, .int .i64 tt.far, .slice att_0 tt.first.length ctt_0, .slice att_1 tt.rest.length ctt_1]) rfl rfl rfl sz43 rfl rfl rfl rfl ?_
        refine o_nil ?_
        refine h_next (fun _ hw => HeapIs.drop hw (List.Sublist.cons_cons _ (List.Sublist.cons_cons _ (List.Sublist.cons_cons _ (List.Sublist.cons_cons _ (List.Sublist.cons _ (List.Sublist.cons_cons _ (List.Sublist.cons_cons _ (List.Sublist.slnil))))))))) ?_
        refine h_take (i := 8) (ls := #[true, true, true, true, true, true, true, true, true, false, false]) rfl (by kernel_rfl) (by kernel_rfl) (by kernel_rfl) (fun _ _ _ h => h) (p_assign (v := .int .i64 m1) rfl) rfl rfl rfl (fun _ hw => HeapIs.drop hw (List.Sublist.cons_cons _ (List.Sublist.cons_cons _ (List.Sublist.cons_cons _ (List.Sublist.cons_cons _ (List.Sublist.cons _ (List.Sublist.cons_cons _ (List.Sublist.cons_cons _ (List.Sublist.slnil))))))))) rfl ?_
        refine h_take (i := 9) (ls := #[true, true, true, true, true, true, true, true, true, true, false]) rfl (by kernel_rfl) (by kernel_rfl) (by kernel_rfl) (fun _ _ _ h => h) (p_assign (v := .int .i64 m2) rfl) rfl rfl rfl (fun _ hw => HeapIs.drop hw (List.Sublist.cons_cons _ (List.Sublist.cons_cons _ (List.Sublist.cons_cons _ (List.Sublist.cons_cons _ (List.Sublist.cons _ (List.Sublist.cons_cons _ (List.Sublist.cons_cons _ (List.Sublist.slnil))))))))) rfl ?_
        refine h_take (i := 10) (ls := #[true, true, true, true, true, true, true, true, true, true, true]) rfl (by kernel_rfl) (by kernel_rfl) (by kernel_rfl) (fun _ _ _ h => h) (p_assign (v := .int .i64 0) rfl) rfl rfl rfl (fun _ hw => HeapIs.drop hw (List.Sublist.cons_cons _ (List.Sublist.cons_cons _ (List.Sublist.cons_cons _ (List.Sublist.cons_cons _ (List.Sublist.cons _ (List.Sublist.cons_cons _ (List.Sublist.cons_cons _ (List.Sublist.slnil))))))))) rfl ?_
        refine h_done (by kernel_rfl) ?_
        refine q_then ?_
        refine c_ret ?_
        obtain ⟨ha, hae⟩ : _ ∧ _ := by first | exact Tier.run1 (c := t) (l := l) (by assumption) | exact Tier.run2 (c := t) (l := l) (by assumption) (by assumption) | exact Tier.run3 (c := t) (l := l) (by assumption) (by assumption)
        have hr0 : (tt.near : Int) = ((Tier.run t l).1).near := by
          first | (simp only [ha, hae, Tier.zero]; done) | (simp only [ha, hdn]; done)
        have hr1 : (tt.far : Int) = ((Tier.run t l).1).far := by
          first | (simp only [ha, hae, Tier.zero]; done) | (simp only [ha, hdn]; done)
        have hr2 : (tt.first : List Int) = ((Tier.run t l).1).first := by
          first | (simp only [ha, hae, Tier.zero]; done) | (simp only [ha, hdn]; done)
        have hr3 : (tt.rest : List Int) = ((Tier.run t l).1).rest := by
          first | (simp only [ha, hae, Tier.zero]; done) | (simp only [ha, hdn]; done)
        have hr4 : (m1 : Int) = ((Tier.run t l).2.1) := by
          first | (simp only [ha, hae, Tier.zero]; done) | (simp only [ha, hdn]; done)
        have hr5 : (m2 : Int) = ((Tier.run t l).2.2) := by
          first | (simp only [ha, hae, Tier.zero]; done) | (simp only [ha, hdn]; done)
        have hr6 : (0 : Int) = (Tier.runErr t l) := by
          first | (simp only [ha, hae, Tier.zero]; done) | (simp only [ha, hdn]; done)
        refine q_endM (p := (att_0, ctt_0, att_1, ctt_1)) (fun b => Stt_0 b ∨ Stt_1 b) (rt4 rfl (r_cell (i := 4) rfl rfl sh43 rfl) (r_tmp rfl) (r_tmp rfl) (r_tmp rfl)) (i := 6) rfl ?_ ?_ ?_
        · exact (by have hcc := congr (congr (congr (congr (congr (congr (congrArg (fun (y0 : Int) (y1 : Int) (y2 : List Int) (y3 : List Int) (y4 : Int) (y5 : Int) (y6 : Int) => (.tuple #[.agg #[.int .i64 y0, .int .i64 y1, .slice att_0 y2.length ctt_0, .slice att_1 y3.length ctt_1], .int .i64 y4, .int .i64 y5, .int .i64 y6] : Value)) hr0) hr1) hr2) hr3) hr4) hr5) hr6; exact hcc)
        · intro w hw b hb; rcases hb with hb | hb
          · exact hw.above (i := 6) (j := 2) (by decide) rfl rfl b hb
          · exact hw.above (i := 6) (j := 3) (by decide) rfl rfl b hb
        · intro w hw; exact ⟨Eq.mp (congrArg (fun y => SlR tInt _ w att_0 ctt_0 y) hr2) (SlR.mono (fun b hb => by simp [hb]) (SlO.toR (hw.at (i := 2) rfl).here)), Eq.mp (congrArg (fun y => SlR tInt _ w att_1 ctt_1 y) hr3) (SlR.mono (fun b hb => by simp [hb]) (SlO.toR (hw.at (i := 3) rfl).here))⟩
  · simp only [beq_eq_false_iff_ne, ne_eq] at hc3
    refine c_skip ?_
    refine q_then ?_
    refine c_seq ?_
    refine c_seq ?_
    refine c_region ?_
    refine o_pure (p_move (v := .int .i64 (Tier.check t)) rfl) rfl rfl rfl ?_
    refine o_pure (p_ne (p := (Tier.check t)) (q := 0) rfl rfl) rfl rfl rfl ?_
    refine o_nil ?_
    refine q_then ?_
    refine c_cond (b := ((Tier.check t) != 0)) rfl (fun hc26 => ?_) (fun hc26 => ?_)
    · simp only [bne_iff_ne, ne_eq] at hc26
      refine c_seq ?_
      refine c_region ?_
      refine o_pure (p_build (cells := [.int .i64 0, .int .i64 0, .slice none 0 0, .slice none 0 0]) fp43 ze43 rfl rfl) rfl rfl rfl ?_
      refine o_pure (p_move (v := .int .i64 (Tier.check t)) rfl) rfl rfl rfl ?_
      refine o_storeN (i := 0) (vs := [.int .i64 0, .int .i64 0, .slice none 0 0, .slice none 0 0]) (cs' := [.int .i64 0, .int .i64 0, .slice none 0 0, .slice none 0 0]) rfl rfl rfl sz43 rfl rfl rfl rfl ?_
      refine o_pure (p_assign (v := .int .i64 0) rfl) rfl rfl rfl ?_
      refine o_pure (p_assign (v := .int .i64 0) rfl) rfl rfl rfl ?_
      refine o_pure (p_assign (v := .int .i64 (Tier.check t)) rfl) rfl rfl rfl ?_
      refine o_nil ?_
      refine q_then ?_
      refine c_ret ?_
      refine q_then_ret ?_
      obtain ⟨ha, hae⟩ : _ ∧ _ := by first | exact Tier.run1 (c := t) (l := l) (by assumption) | exact Tier.run2 (c := t) (l := l) (by assumption) (by assumption) | exact Tier.run3 (c := t) (l := l) (by assumption) (by assumption)
      have hr0 : (0 : Int) = ((Tier.run t l).1).near := by
        first | (simp only [ha, hae, Tier.zero]; done) | (simp only [ha, hdn]; done)
      have hr1 : (0 : Int) = ((Tier.run t l).1).far := by
        first | (simp only [ha, hae, Tier.zero]; done) | (simp only [ha, hdn]; done)
      have hr2 : ([] : List Int) = ((Tier.run t l).1).first := by
        first | (simp only [ha, hae, Tier.zero]; done) | (simp only [ha, hdn]; done)
      have hr3 : ([] : List Int) = ((Tier.run t l).1).rest := by
        first | (simp only [ha, hae, Tier.zero]; done) | (simp only [ha, hdn]; done)
      have hr4 : (0 : Int) = ((Tier.run t l).2.1) := by
        first | (simp only [ha, hae, Tier.zero]; done) | (simp only [ha, hdn]; done)
      have hr5 : (0 : Int) = ((Tier.run t l).2.2) := by
        first | (simp only [ha, hae, Tier.zero]; done) | (simp only [ha, hdn]; done)
      have hr6 : ((Tier.check t) : Int) = (Tier.runErr t l) := by
        first | (simp only [ha, hae, Tier.zero]; done) | (simp only [ha, hdn]; done)
      refine q_endM (p := (none, 0, none, 0)) (fun _ => False) (rt4 rfl (r_cell (i := 0) rfl rfl sh43 rfl) (r_tmp rfl) (r_tmp rfl) (r_tmp rfl)) (i := 2) rfl ?_ ?_ ?_
      · exact (by have hcc := congr (congr (congr (congr (congr (congr (congrArg (fun (y0 : Int) (y1 : Int) (y2 : List Int) (y3 : List Int) (y4 : Int) (y5 : Int) (y6 : Int) => (.tuple #[.agg #[.int .i64 y0, .int .i64 y1, .slice none y2.length 0, .slice none y3.length 0], .int .i64 y4, .int .i64 y5, .int .i64 y6] : Value)) hr0) hr1) hr2) hr3) hr4) hr5) hr6; exact hcc)
      · intro w hw b hb; exact hb.elim
      · intro w hw; exact ⟨Eq.mp (congrArg (fun y => SlR tInt _ w none 0 y) hr2) (SlR.nil tInt _ w), Eq.mp (congrArg (fun y => SlR tInt _ w none 0 y) hr3) (SlR.nil tInt _ w)⟩
    · simp only [bne_eq_false_iff_eq] at hc26
      exfalso; first | contradiction | omega | simp_all

set_option maxHeartbeats 8000000 in
set_option maxRecDepth 100000 in
theorem tmerged_ok (t : DTiers) (at_0 : Option Addr) (ct_0 : Nat) (at_1 : Option Addr) (ct_1 : Nat) : FnM Try.prog 29 [.agg #[.int .i64 t.near, .int .i64 t.far, .slice at_0 t.first.length ct_0, .slice at_1 t.rest.length ct_1]] (fun w => Rd tInt w at_0 ct_0 t.first ∧ Rd tInt w at_1 ct_1 t.rest) (Option Addr × Nat) (fun p => .tuple #[.agg #[.int .i64 ((Tier.merged t).room), .slice p.1 ((Tier.merged t).keys).length p.2], .int .i64 (Tier.check t)]) (fun p S w => SlO tInt S w p.1 p.2 ((Tier.merged t).keys)) := by
  refine fnM (nt := 23) (F0 := [(0, .agg #[.int .i64 t.near, .int .i64 t.far, .slice at_0 t.first.length ct_0, .slice at_1 t.rest.length ct_1])]) Try.func29 rfl Try.ntmps29 rfl rfl (fun w0 hpre => ?_)
  obtain ⟨ht_0, ht_1⟩ := hpre
  have hlht_0 := ht_0.2.1
  have hlht_1 := ht_1.2.1
  refine c_seq ?_
  refine c_region ?_
  refine o_box (v := .agg #[.int .i64 t.near, .int .i64 t.far, .slice at_0 t.first.length ct_0, .slice at_1 t.rest.length ct_1]) rfl rfl (fun B1 => ?_)
  refine o_alloc ze48 rfl (fun B2 => ?_)
  refine o_pure (p_assign (v := .int .i64 0) rfl) rfl rfl rfl ?_
  refine o_nil ?_
  refine q_then ?_
  refine c_seq ?_
  refine c_seq ?_
  refine c_region ?_
  refine o_pure (p_load_agg (i := 1) (vs := [.int .i64 t.near, .int .i64 t.far, .slice at_0 t.first.length ct_0, .slice at_1 t.rest.length ct_1]) rfl rfl sh43 rfl rfl) rfl rfl rfl ?_
  refine o_call0 (v := .int .i64 (Tier.check t)) rfl (tcheck_ok t at_0 ct_0 at_1 ct_1) hf34 (fun w hw => ⟨(rd_base (i := 2) rfl ht_0) w hw, (rd_base (i := 2) rfl ht_1) w hw⟩) rfl ?_
  refine o_pure (p_assign (v := .int .i64 (Tier.check t)) rfl) rfl rfl rfl ?_
  refine o_nil ?_
  refine q_then ?_
  refine c_seq ?_
  refine c_region ?_
  refine o_pure (p_move (v := .int .i64 (Tier.check t)) rfl) rfl rfl rfl ?_
  refine o_pure (p_ne (p := (Tier.check t)) (q := 0) rfl rfl) rfl rfl rfl ?_
  refine o_nil ?_
  refine q_then ?_
  refine c_cond (b := ((Tier.check t) != 0)) rfl (fun hc3 => ?_) (fun hc3 => ?_)
  · simp only [bne_iff_ne, ne_eq] at hc3
    refine c_seq ?_
    refine c_region ?_
    refine o_pure (p_build (cells := [.int .i64 0, .slice none 0 0]) fp48 ze48 rfl rfl) rfl rfl rfl ?_
    refine o_pure (p_move (v := .int .i64 (Tier.check t)) rfl) rfl rfl rfl ?_
    refine o_storeN (i := 0) (vs := [.int .i64 0, .slice none 0 0]) (cs' := [.int .i64 0, .slice none 0 0]) rfl rfl rfl sz48 rfl rfl rfl rfl ?_
    refine o_pure (p_assign (v := .int .i64 (Tier.check t)) rfl) rfl rfl rfl ?_
    refine o_nil ?_
    refine q_then ?_
    refine c_ret ?_
    refine q_then_ret ?_
    have hr0 : (0 : Int) = (Tier.merged t).room := by
      first | (rw [Tier.merged1 (by assumption)]; done) | (rw [Tier.merged2 (by assumption)]; done) | (symm; assumption) | rfl
    have hr1 : ([] : List Int) = (Tier.merged t).keys := by
      first | (rw [Tier.merged1 (by assumption)]; done) | (rw [Tier.merged2 (by assumption)]; done) | (symm; assumption) | rfl
    refine q_endM (p := (none, 0)) (fun _ => False) (rt2 rfl (r_cell (i := 0) rfl rfl sh48 rfl) (r_tmp rfl)) (i := 2) rfl ?_ ?_ ?_
    · exact (by have hcc := congr (congrArg (fun (y0 : Int) (y1 : List Int) => (.tuple #[.agg #[.int .i64 y0, .slice none y1.length 0], .int .i64 (Tier.check t)] : Value)) hr0) hr1; exact hcc)
    · intro w hw b hb; exact hb.elim
    · intro w hw; exact Eq.mp (congrArg (fun y => SlO tInt _ w none 0 y) hr1) (SlO.nil tInt w)
  · simp only [bne_eq_false_iff_eq] at hc3
    have hck := hc3
    have hok := Tier.ok_of hck
    have hnr := hok.near
    have hfr := hok.far
    have hl1 := hok.len1
    have hl2 := hok.len2
    refine c_skip ?_
    refine q_then ?_
    refine c_seq ?_
    refine c_held hmix [box B1 [.int .i64 t.near, .int .i64 t.far, .slice at_0 t.first.length ct_0, .slice at_1 t.rest.length ct_1] 43, base w0] rfl rfl ?_
    refine h_take (i := 0) (ls := #[true, false, false, false, false, false, false, false, false, false, false, false, false, false]) rfl (by kernel_rfl) (by kernel_rfl) (by kernel_rfl) (fun _ _ _ h => h) (p_fieldAddr (B := B1) (j := 0) (j' := 0) rfl fo43_0 rfl) rfl rfl rfl (fun _ hw => HeapIs.drop hw (List.Sublist.cons _ (List.Sublist.cons_cons _ (List.Sublist.cons_cons _ (List.Sublist.slnil))))) rfl ?_
    refine h_take (i := 1) (ls := #[true, true, false, false, false, false, false, false, false, false, false, false, false, false]) rfl (by kernel_rfl) (by kernel_rfl) (by kernel_rfl) (fun _ _ _ h => h) (p_load (i := 0) (v := .int .i64 t.near) rfl rfl sh3 rfl) rfl rfl rfl (fun _ hw => HeapIs.drop hw (List.Sublist.cons _ (List.Sublist.cons_cons _ (List.Sublist.cons_cons _ (List.Sublist.slnil))))) rfl ?_
    refine h_take (i := 2) (ls := #[true, true, true, false, false, false, false, false, false, false, false, false, false, false]) rfl (by kernel_rfl) (by kernel_rfl) (by kernel_rfl) (fun _ _ _ h => h) (p_fieldAddr (B := B1) (j := 0) (j' := 1) rfl fo43_1 rfl) rfl rfl rfl (fun _ hw => HeapIs.drop hw (List.Sublist.cons _ (List.Sublist.cons_cons _ (List.Sublist.cons_cons _ (List.Sublist.slnil))))) rfl ?_
    refine h_take (i := 3) (ls := #[true, true, true, true, false, false, false, false, false, false, false, false, false, false]) rfl (by kernel_rfl) (by kernel_rfl) (by kernel_rfl) (fun _ _ _ h => h) (p_load (i := 0) (v := .int .i64 t.far) rfl rfl sh3 rfl) rfl rfl rfl (fun _ hw => HeapIs.drop hw (List.Sublist.cons _ (List.Sublist.cons_cons _ (List.Sublist.cons_cons _ (List.Sublist.slnil))))) rfl ?_
    refine h_take (i := 4) (ls := #[true, true, true, true, true, false, false, false, false, false, false, false, false, false]) rfl (by kernel_rfl) (by kernel_rfl) (by kernel_rfl) (fun _ _ _ h => h) (p_addb (p := t.near) (q := t.far) rfl rfl (by omega)) rfl rfl rfl (fun _ hw => HeapIs.drop hw (List.Sublist.cons _ (List.Sublist.cons_cons _ (List.Sublist.cons_cons _ (List.Sublist.slnil))))) rfl ?_
    refine h_take (i := 5) (ls := #[true, true, true, true, true, true, false, false, false, false, false, false, false, false]) rfl (by kernel_rfl) (by kernel_rfl) (by kernel_rfl) (fun _ _ _ h => h) (p_fieldAddr (B := B1) (j := 0) (j' := 2) rfl fo43_2 rfl) rfl rfl rfl (fun _ hw => HeapIs.drop hw (List.Sublist.cons _ (List.Sublist.cons_cons _ (List.Sublist.cons_cons _ (List.Sublist.slnil))))) rfl ?_
    refine h_take (i := 6) (ls := #[true, true, true, true, true, true, true, false, false, false, false, false, false, false]) rfl (by kernel_rfl) (by kernel_rfl) (by kernel_rfl) (fun _ _ _ h => h) (p_load (i := 0) (v := .slice at_0 t.first.length ct_0) rfl rfl sh23 rfl) rfl rfl rfl (fun _ hw => HeapIs.drop hw (List.Sublist.cons _ (List.Sublist.cons_cons _ (List.Sublist.cons_cons _ (List.Sublist.slnil))))) rfl ?_
    refine h_take (i := 7) (ls := #[true, true, true, true, true, true, true, true, false, false, false, false, false, false]) rfl (by kernel_rfl) (by kernel_rfl) (by kernel_rfl) (fun _ _ _ h => h) (p_fieldAddr (B := B1) (j := 0) (j' := 3) rfl fo43_3 rfl) rfl rfl rfl (fun _ hw => HeapIs.drop hw (List.Sublist.cons _ (List.Sublist.cons_cons _ (List.Sublist.cons_cons _ (List.Sublist.slnil))))) rfl ?_
    refine h_take (i := 8) (ls := #[true, true, true, true, true, true, true, true, true, false, false, false, false, false]) rfl (by kernel_rfl) (by kernel_rfl) (by kernel_rfl) (fun _ _ _ h => h) (p_load (i := 0) (v := .slice at_1 t.rest.length ct_1) rfl rfl sh23 rfl) rfl rfl rfl (fun _ hw => HeapIs.drop hw (List.Sublist.cons _ (List.Sublist.cons_cons _ (List.Sublist.cons_cons _ (List.Sublist.slnil))))) rfl ?_
    refine h_one (i := 9) (ls := #[true, true, true, true, true, true, true, true, true, true, false, false, false, false]) (by kernel_rfl) rfl rfl ?_
    refine o_buildSlice (m := 2) (T := tHdr) (L := [(⟨at_0, ct_0, t.first⟩ : Hdr), (⟨at_1, ct_1, t.rest⟩ : Hdr)]) (vs := [.slice at_0 t.first.length ct_0, .slice at_1 t.rest.length ct_1]) rfl rfl rfl rfl Try.underlying57 sz23 (by decide) ze23 rfl (by decide) rfl (fun S4_9 a4_9 => ?_)
    refine o_nil ?_
    refine h_next (fun _ hw => HeapIs.drop hw (List.Sublist.cons _ (List.Sublist.cons _ (List.Sublist.cons_cons _ (List.Sublist.cons_cons _ (List.Sublist.slnil)))))) ?_
    refine h_one (i := 10) (ls := #[true, true, true, true, true, true, true, true, true, true, true, false, false, false]) (by kernel_rfl) rfl rfl ?_
    refine o_callM rfl (concat2_ok t.first at_0 ct_0 t.rest at_1 ct_1 a4_9 ([(⟨at_0, ct_0, t.first⟩ : Hdr), (⟨at_1, ct_1, t.rest⟩ : Hdr)].length) (by first | omega | (simp only [List.length_append]; omega))) hf62 (fun w hw => ⟨(rd_own (i := 0) rfl) w hw, (rd_base (i := 3) rfl ht_0) w hw, (rd_base (i := 3) rfl ht_1) w hw⟩) rfl (fun _ _ _ _ ha hA => SlO.agree ha hA) ?_
    rintro ⟨a4_10, c4_10⟩ S4_10
    refine o_know (fun w hw => own_len (i := 0) (T := tInt) hw rfl) (fun hlr4_10 => ?_)
    refine o_nil ?_
    refine h_next (fun _ hw => HeapIs.drop hw (List.Sublist.cons _ (List.Sublist.cons _ (List.Sublist.cons _ (List.Sublist.cons_cons _ (List.Sublist.cons_cons _ (List.Sublist.slnil))))))) ?_
    refine h_take (i := 11) (ls := #[true, true, true, true, true, true, true, true, true, true, true, true, false, false]) rfl (by kernel_rfl) (by kernel_rfl) (by kernel_rfl) (fun _ _ _ h => h) (p_build (cells := [.int .i64 (t.near + t.far), .slice a4_10 (t.first ++ t.rest).length c4_10]) fp48 ze48 rfl rfl) rfl rfl rfl (fun _ hw => HeapIs.drop hw (List.Sublist.cons _ (List.Sublist.cons _ (List.Sublist.cons _ (List.Sublist.cons_cons _ (List.Sublist.cons_cons _ (List.Sublist.slnil))))))) rfl ?_
    refine h_one (i := 12) (ls := #[true, true, true, true, true, true, true, true, true, true, true, true, true, false]) (by kernel_rfl) rfl rfl ?_
    refine o_storeN (i := 2) (vs := [.int .i64 (t.near + t.far), .slice a4_10 (t.first ++ t.rest).length c4_10]) (cs' := [.int .i64 (t.near + t.far), .slice a4_10 (t.first ++ t.rest).length c4_10]) rfl rfl rfl sz48 rfl rfl rfl rfl ?_
    refine o_nil ?_
    refine h_next (fun _ hw => HeapIs.drop hw (List.Sublist.cons _ (List.Sublist.cons _ (List.Sublist.cons _ (List.Sublist.cons_cons _ (List.Sublist.cons_cons _ (List.Sublist.slnil))))))) ?_
    refine h_take (i := 13) (ls := #[true, true, true, true, true, true, true, true, true, true, true, true, true, true]) rfl (by kernel_rfl) (by kernel_rfl) (by kernel_rfl) (fun _ _ _ h => h) (p_assign (v := .int .i64 0) rfl) rfl rfl rfl (fun _ hw => HeapIs.drop hw (List.Sublist.cons _ (List.Sublist.cons _ (List.Sublist.cons _ (List.Sublist.cons_cons _ (List.Sublist.cons_cons _ (List.Sublist.slnil))))))) rfl ?_
    refine h_done (by kernel_rfl) ?_
    refine q_then ?_
    refine c_ret ?_
    have hr0 : ((t.near + t.far) : Int) = (Tier.merged t).room := by
      first | (rw [Tier.merged1 (by assumption)]; done) | (rw [Tier.merged2 (by assumption)]; done) | (symm; assumption) | rfl
    have hr1 : ((t.first ++ t.rest) : List Int) = (Tier.merged t).keys := by
      first | (rw [Tier.merged1 (by assumption)]; done) | (rw [Tier.merged2 (by assumption)]; done) | (symm; assumption) | rfl
    have hr2 : (0 : Int) = (Tier.check t) := by
      first | (rw [Tier.merged1 (by assumption)]; done) | (rw [Tier.merged2 (by assumption)]; done) | (symm; assumption) | rfl
    refine q_endM (p := (a4_10, c4_10)) S4_10 (rt2 rfl (r_cell (i := 2) rfl rfl sh48 rfl) (r_tmp rfl)) (i := 4) rfl ?_ ?_ ?_
    · exact (by have hcc := congr (congr (congrArg (fun (y0 : Int) (y1 : List Int) (y2 : Int) => (.tuple #[.agg #[.int .i64 y0, .slice a4_10 y1.length c4_10], .int .i64 y2] : Value)) hr0) hr1) hr2; exact hcc)
    · exact fun w hw => hw.above (i := 4) (j := 0) (by decide) rfl rfl
    · intro w hw; exact Eq.mp (congrArg (fun y => SlO tInt _ w a4_10 c4_10 y) hr1) ((hw.at (i := 0) rfl).here)
end Go.Proofs.Ytgjdmnljnimamaa
