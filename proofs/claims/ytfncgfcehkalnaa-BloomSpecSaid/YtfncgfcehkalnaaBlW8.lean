/- The walks, printed by a program from the translation and a specification. -/
import Derived.Test.YtfncgfcehkalnaaBlF
import Derived.Test.YtfncgfcehkalnaaBlLaw
import Derived.Test.YtfncgfcehkalnaaBlW7
namespace Go.Proofs.Ytfncgfcehkalnaa
open Go.Sx Go.RowKit
set_option maxHeartbeats 8000000 in
set_option maxRecDepth 100000 in
theorem bloomSpec_ok (a : DFilter) (aa_0 : Option Addr) (ca_0 : Nat) (b : DFilter) (ab_0 : Option Addr) (cb_0 : Nat) (s : ByteArray) : Fn0 Try.prog 3 [.agg #[Vi a.size, Vi a.hashes, .slice aa_0 a.set.length ca_0], .agg #[Vi b.size, Vi b.hashes, .slice ab_0 b.set.length cb_0], .string s] (fun w => Rd tInt w aa_0 ca_0 a.set ∧ Rd tInt w ab_0 cb_0 b.set) (.bool true) := by
 refine fn0 (nt := 185) (F0 := [(0, .agg #[Vi a.size, Vi a.hashes, .slice aa_0 a.set.length ca_0]), (1, .agg #[Vi b.size, Vi b.hashes, .slice ab_0 b.set.length cb_0]), (2, .string s)]) Try.func3 rfl Try.ntmps3 rfl rfl (fun w0 hpre => ?_)
 obtain ⟨ha_0, hb_0⟩ := hpre
 have hlha_0 := ha_0.2.1
 have hlhb_0 := hb_0.2.1
 refine c_seq (c_region ?_)
 refine o_box (v := .agg #[Vi a.size, Vi a.hashes, .slice aa_0 a.set.length ca_0]) rfl rfl (fun B1 => ?_)
 refine o_box (v := .agg #[Vi b.size, Vi b.hashes, .slice ab_0 b.set.length cb_0]) rfl rfl (fun B2 => ?_)
 refine o_as rfl rfl ?_
 refine o_nil (q_then (c_seq (c_region ?_)))
 refine o_p (p_load_agg (i := 1) (vs := [Vi a.size, Vi a.hashes, .slice aa_0 a.set.length ca_0]) rfl rfl sh24 rfl rfl) ?_
 refine o_mv rfl rfl ?_
 refine o_callM rfl (bbits_ok a aa_0 ca_0 s) hf10 (fun w hw => (rd_base (i := 2) rfl ha_0) w hw) rfl (fun _ _ _ _ ha hA => SlO.agree ha hA) ?_
 rintro ⟨a5, c6⟩ S3
 refine o_know (fun w hw => own_len (i := 0) (T := tInt) hw rfl) (fun hlr7 => ?_)
 refine o_mv rfl rfl ?_
 refine o_ex rfl rfl rfl ?_
 refine o_ex rfl rfl rfl ?_
 refine o_as rfl rfl ?_
 refine o_as rfl rfl ?_
 refine o_nil (q_then (c_seq (c_region ?_)))
 refine o_p (p_load_agg (i := 2) (vs := [Vi a.size, Vi a.hashes, .slice aa_0 a.set.length ca_0]) rfl rfl sh24 rfl rfl) ?_
 refine o_mv rfl rfl ?_
 refine o_callM rfl (badd_ok a aa_0 ca_0 s) hf11 (fun w hw => (rd_base (i := 3) rfl ha_0) w hw) rfl (fun _ _ _ _ ha hA => SlO.agree ha hA) ?_
 rintro ⟨a10, c11⟩ S8
 refine o_know (fun w hw => own_len (i := 0) (T := tInt) hw rfl) (fun hlr12 => ?_)
 refine o_mv rfl rfl ?_
 refine o_ex rfl rfl rfl ?_
 refine o_ex rfl rfl rfl ?_
 refine o_alloc ze24 rfl (fun B13 => ?_)
 refine o_storeN (i := 0) (vs := [Vi ((Bl.add a s).size), Vi ((Bl.add a s).hashes), .slice a10 ((Bl.add a s).set).length c11]) (cs' := [Vi ((Bl.add a s).size), Vi ((Bl.add a s).hashes), .slice a10 ((Bl.add a s).set).length c11]) rfl rfl rfl sz24 rfl rfl rfl rfl ?_
 refine o_as rfl rfl ?_
 refine o_nil (q_then (c_seq (c_region ?_)))
 refine o_p (p_load_agg (i := 4) (vs := [Vi a.size, Vi a.hashes, .slice aa_0 a.set.length ca_0]) rfl rfl sh24 rfl rfl) ?_
 refine o_mv rfl rfl ?_
 refine o_call0 (v := .tuple #[.bool (Bl.may a s), Vi (Bl.keyErr a s)]) rfl (bmay_ok a aa_0 ca_0 s) hf12 (fun w hw => (rd_base (i := 5) rfl ha_0) w hw) rfl ?_
 refine o_mv rfl rfl ?_
 refine o_ex rfl rfl rfl ?_
 refine o_ex rfl rfl rfl ?_
 refine o_as rfl rfl ?_
 refine o_as rfl rfl ?_
 refine o_nil (q_then (c_seq (c_region ?_)))
 refine o_p (p_load_agg (i := 4) (vs := [Vi a.size, Vi a.hashes, .slice aa_0 a.set.length ca_0]) rfl rfl sh24 rfl rfl) ?_
 refine o_p (p_load_agg (i := 3) (vs := [Vi b.size, Vi b.hashes, .slice ab_0 b.set.length cb_0]) rfl rfl sh24 rfl rfl) ?_
 refine o_callM rfl (bunion_ok a aa_0 ca_0 b ab_0 cb_0) hf13 (fun w hw => ⟨(rd_base (i := 5) rfl ha_0) w hw, (rd_base (i := 5) rfl hb_0) w hw⟩) rfl (fun _ _ _ _ ha hA => SlO.agree ha hA) ?_
 rintro ⟨a16, c17⟩ S14
 refine o_know (fun w hw => own_len (i := 0) (T := tInt) hw rfl) (fun hlr18 => ?_)
 refine o_mv rfl rfl ?_
 refine o_ex rfl rfl rfl ?_
 refine o_ex rfl rfl rfl ?_
 refine o_alloc ze24 rfl (fun B19 => ?_)
 refine o_storeN (i := 0) (vs := [Vi ((Bl.uni a b).size), Vi ((Bl.uni a b).hashes), .slice a16 ((Bl.uni a b).set).length c17]) (cs' := [Vi ((Bl.uni a b).size), Vi ((Bl.uni a b).hashes), .slice a16 ((Bl.uni a b).set).length c17]) rfl rfl rfl sz24 rfl rfl rfl rfl ?_
 refine o_as rfl rfl ?_
 refine o_nil (q_then (c_seq (c_region ?_)))
 refine o_p (p_load_agg (i := 6) (vs := [Vi a.size, Vi a.hashes, .slice aa_0 a.set.length ca_0]) rfl rfl sh24 rfl rfl) ?_
 refine o_callM rfl (bfold_ok a aa_0 ca_0) hf14 (fun w hw => (rd_base (i := 7) rfl ha_0) w hw) rfl (fun _ _ _ _ ha hA => SlO.agree ha hA) ?_
 rintro ⟨a22, c23⟩ S20
 refine o_know (fun w hw => own_len (i := 0) (T := tInt) hw rfl) (fun hlr24 => ?_)
 refine o_mv rfl rfl ?_
 refine o_ex rfl rfl rfl ?_
 refine o_ex rfl rfl rfl ?_
 refine o_alloc ze24 rfl (fun B25 => ?_)
 refine o_storeN (i := 0) (vs := [Vi ((Bl.fold a).size), Vi ((Bl.fold a).hashes), .slice a22 ((Bl.fold a).set).length c23]) (cs' := [Vi ((Bl.fold a).size), Vi ((Bl.fold a).hashes), .slice a22 ((Bl.fold a).set).length c23]) rfl rfl rfl sz24 rfl rfl rfl rfl ?_
 refine o_as rfl rfl ?_
 refine o_nil (q_then (c_seq (c_region ?_)))
 refine o_p (p_load_agg (i := 8) (vs := [Vi a.size, Vi a.hashes, .slice aa_0 a.set.length ca_0]) rfl rfl sh24 rfl rfl) ?_
 refine o_call0 (v := Vi (Bl.check a)) rfl (bloomCheck_ok a aa_0 ca_0) hf15 (fun w hw => (rd_base (i := 9) rfl ha_0) w hw) rfl ?_
 refine o_as rfl rfl ?_
 refine o_nil (q_then (c_seq (c_region ?_)))
 refine o_mv rfl rfl ?_
 refine o_mv rfl rfl ?_
 refine o_mv rfl rfl ?_
 refine o_as rfl rfl ?_
 refine o_as rfl rfl ?_
 refine o_as rfl rfl ?_
 refine o_nil (q_then (c_seq (c_region ?_)))
 refine o_as rfl rfl ?_
 refine o_nil (q_then (c_seq (c_region ?_)))
 refine o_alloc ze24 rfl (fun B26 => ?_)
 refine o_alloc ze24 rfl (fun B27 => ?_)
 refine o_alloc ze24 rfl (fun B28 => ?_)
 refine o_nil (q_then (c_seq (c_region ?_)))
 refine o_as rfl rfl ?_
 refine o_nil (q_then (c_seq (c_seq (c_region ?_))))
 refine o_mv rfl rfl ?_
 refine o_p (p_eq rfl rfl) ?_
 refine o_nil (q_then ?_)
 refine c_heap (H' := [loose tInt (False) (fun _ => False) none 0 ([] : List Int), box B28 [Vi 0, Vi 0, .slice none 0 0] 24, box B27 [Vi 0, Vi 0, .slice none 0 0] 24, box B26 [Vi 0, Vi 0, .slice none 0 0] 24, box B25 [Vi ((Bl.fold a).size), Vi ((Bl.fold a).hashes), .slice a22 ((Bl.fold a).set).length c23] 24, own tInt S20 a22 c23 ((Bl.fold a).set), box B19 [Vi ((Bl.uni a b).size), Vi ((Bl.uni a b).hashes), .slice a16 ((Bl.uni a b).set).length c17] 24, own tInt S14 a16 c17 ((Bl.uni a b).set), box B13 [Vi ((Bl.add a s).size), Vi ((Bl.add a s).hashes), .slice a10 ((Bl.add a s).set).length c11] 24, own tInt S8 a10 c11 ((Bl.add a s).set), own tInt S3 a5 c6 (Bl.bits a s), box B2 [Vi b.size, Vi b.hashes, .slice ab_0 b.set.length cb_0] 24, box B1 [Vi a.size, Vi a.hashes, .slice aa_0 a.set.length ca_0] 24, base w0]) (fun w hw => HeapIs.looseNil tInt hw) ?_
 refine c_heap (H' := [loose tInt (False) (fun _ => False) none 0 ([] : List Int), loose tInt (False) (fun _ => False) none 0 ([] : List Int), box B28 [Vi 0, Vi 0, .slice none 0 0] 24, box B27 [Vi 0, Vi 0, .slice none 0 0] 24, box B26 [Vi 0, Vi 0, .slice none 0 0] 24, box B25 [Vi ((Bl.fold a).size), Vi ((Bl.fold a).hashes), .slice a22 ((Bl.fold a).set).length c23] 24, own tInt S20 a22 c23 ((Bl.fold a).set), box B19 [Vi ((Bl.uni a b).size), Vi ((Bl.uni a b).hashes), .slice a16 ((Bl.uni a b).set).length c17] 24, own tInt S14 a16 c17 ((Bl.uni a b).set), box B13 [Vi ((Bl.add a s).size), Vi ((Bl.add a s).hashes), .slice a10 ((Bl.add a s).set).length c11] 24, own tInt S8 a10 c11 ((Bl.add a s).set), own tInt S3 a5 c6 (Bl.bits a s), box B2 [Vi b.size, Vi b.hashes, .slice ab_0 b.set.length cb_0] 24, box B1 [Vi a.size, Vi a.hashes, .slice aa_0 a.set.length ca_0] 24, base w0]) (fun w hw => HeapIs.looseNil tInt hw) ?_
 refine c_heap (H' := [loose tInt (False) (fun _ => False) none 0 ([] : List Int), loose tInt (False) (fun _ => False) none 0 ([] : List Int), loose tInt (False) (fun _ => False) none 0 ([] : List Int), box B28 [Vi 0, Vi 0, .slice none 0 0] 24, box B27 [Vi 0, Vi 0, .slice none 0 0] 24, box B26 [Vi 0, Vi 0, .slice none 0 0] 24, box B25 [Vi ((Bl.fold a).size), Vi ((Bl.fold a).hashes), .slice a22 ((Bl.fold a).set).length c23] 24, own tInt S20 a22 c23 ((Bl.fold a).set), box B19 [Vi ((Bl.uni a b).size), Vi ((Bl.uni a b).hashes), .slice a16 ((Bl.uni a b).set).length c17] 24, own tInt S14 a16 c17 ((Bl.uni a b).set), box B13 [Vi ((Bl.add a s).size), Vi ((Bl.add a s).hashes), .slice a10 ((Bl.add a s).set).length c11] 24, own tInt S8 a10 c11 ((Bl.add a s).set), own tInt S3 a5 c6 (Bl.bits a s), box B2 [Vi b.size, Vi b.hashes, .slice ab_0 b.set.length cb_0] 24, box B1 [Vi a.size, Vi a.hashes, .slice aa_0 a.set.length ca_0] 24, base w0]) (fun w hw => HeapIs.looseNil tInt hw) ?_
 refine c_heap (H' := [loose tInt (False) (fun _ => False) none 0 ([] : List Int), loose tInt (False) (fun _ => False) none 0 ([] : List Int), loose tInt (False) (fun _ => False) none 0 ([] : List Int), loose tInt (False) (fun _ => False) none 0 ([] : List Int), box B28 [Vi 0, Vi 0, .slice none 0 0] 24, box B27 [Vi 0, Vi 0, .slice none 0 0] 24, box B26 [Vi 0, Vi 0, .slice none 0 0] 24, box B25 [Vi ((Bl.fold a).size), Vi ((Bl.fold a).hashes), .slice a22 ((Bl.fold a).set).length c23] 24, own tInt S20 a22 c23 ((Bl.fold a).set), box B19 [Vi ((Bl.uni a b).size), Vi ((Bl.uni a b).hashes), .slice a16 ((Bl.uni a b).set).length c17] 24, own tInt S14 a16 c17 ((Bl.uni a b).set), box B13 [Vi ((Bl.add a s).size), Vi ((Bl.add a s).hashes), .slice a10 ((Bl.add a s).set).length c11] 24, own tInt S8 a10 c11 ((Bl.add a s).set), own tInt S3 a5 c6 (Bl.bits a s), box B2 [Vi b.size, Vi b.hashes, .slice ab_0 b.set.length cb_0] 24, box B1 [Vi a.size, Vi a.hashes, .slice aa_0 a.set.length ca_0] 24, base w0]) (fun w hw => HeapIs.looseNil tInt hw) ?_
 refine c_join (G := Int × Int × Int × List Int × Option Addr × Nat × (Nat → Prop) × Bool × DFilter × Option Addr × Nat × (Nat → Prop) × DFilter × Option Addr × Nat × (Nat → Prop) × DFilter × Option Addr × Nat × (Nat → Prop))
  (fun ⟨v, o, q, places, aplaces, cplaces, Splaces, may, ad, aad_0, cad_0, Sad_0, bo, abo_0, cbo_0, Sbo_0, ha, aha_0, cha_0, Sha_0⟩ => [(3, .pointer (some ⟨B1, 0, none⟩)), (7, .slice a5 (Bl.bits a s).length c6), (8, Vi (Bl.keyErr a s)), (9, .pointer (some ⟨B13, 0, none⟩)), (10, Vi (Bl.keyErr a s)), (11, .bool (Bl.may a s)), (12, Vi (Bl.keyErr a s)), (13, .pointer (some ⟨B19, 0, none⟩)), (14, Vi (Bl.uniErr a b)), (15, .pointer (some ⟨B25, 0, none⟩)), (16, Vi (Bl.foldErr a)), (17, Vi (Bl.check a)), (18, Vi v), (19, Vi o), (20, Vi q), (21, .slice aplaces places.length cplaces), (22, .pointer (some ⟨B26, 0, none⟩)), (23, .pointer (some ⟨B27, 0, none⟩)), (24, .pointer (some ⟨B28, 0, none⟩)), (25, .bool may)])
  (fun ⟨v, o, q, places, aplaces, cplaces, Splaces, may, ad, aad_0, cad_0, Sad_0, bo, abo_0, cbo_0, Sbo_0, ha, aha_0, cha_0, Sha_0⟩ => [loose tInt (False) Sha_0 aha_0 cha_0 ha.set, loose tInt (False) Sbo_0 abo_0 cbo_0 bo.set, loose tInt (False) Sad_0 aad_0 cad_0 ad.set, loose tInt (False) Splaces aplaces cplaces places, box B28 [Vi ha.size, Vi ha.hashes, .slice aha_0 ha.set.length cha_0] 24, box B27 [Vi bo.size, Vi bo.hashes, .slice abo_0 bo.set.length cbo_0] 24, box B26 [Vi ad.size, Vi ad.hashes, .slice aad_0 ad.set.length cad_0] 24, box B25 [Vi ((Bl.fold a).size), Vi ((Bl.fold a).hashes), .slice a22 ((Bl.fold a).set).length c23] 24, own tInt S20 a22 c23 ((Bl.fold a).set), box B19 [Vi ((Bl.uni a b).size), Vi ((Bl.uni a b).hashes), .slice a16 ((Bl.uni a b).set).length c17] 24, own tInt S14 a16 c17 ((Bl.uni a b).set), box B13 [Vi ((Bl.add a s).size), Vi ((Bl.add a s).hashes), .slice a10 ((Bl.add a s).set).length c11] 24, own tInt S8 a10 c11 ((Bl.add a s).set), own tInt S3 a5 c6 (Bl.bits a s), box B2 [Vi b.size, Vi b.hashes, .slice ab_0 b.set.length cb_0] 24, box B1 [Vi a.size, Vi a.hashes, .slice aa_0 a.set.length ca_0] 24, base w0])
  (fun ⟨v, o, q, places, aplaces, cplaces, Splaces, may, ad, aad_0, cad_0, Sad_0, bo, abo_0, cbo_0, Sbo_0, ha, aha_0, cha_0, Sha_0⟩ => (v = Bl.keyErr a s ∧ places = Bl.bits a s ∧ ad = Bl.add a s ∧ may = Bl.may a s) ∧ (o = Bl.uniErr a b ∧ bo = Bl.uni a b) ∧ (q = Bl.foldErr a ∧ ha = Bl.fold a))
  (fun K hK33 => ?_) ?_
 ·refine c_cond rfl (fun hc34 => ?_) (fun hc34 => ?_)
  ·simp only [beq_iff_eq] at hc34
   have hck := hc34
   have hoa := Bl.check_ok.1 hc34
   have hsz := hoa.size
   have hha := hoa.hashes
   have hln := hoa.len
   have htd : a.size.tdiv 2 = a.size / 2 := Int.tdiv_eq_ediv_of_nonneg (by omega)
   refine c_seq (c_seq (c_region ?_))
   refine o_mv rfl rfl ?_
   refine o_p (p_len_string rfl rfl Try.underlying9) ?_
   refine o_p (p_gt rfl rfl) ?_
   refine o_nil (q_then ?_)
   refine c_cond rfl (fun hc35 => ?_) (fun hc35 => ?_)
   ·simp only [decide_eq_true_eq] at hc35
    refine c_region ?_
    refine o_as rfl rfl ?_
    refine o_nil (q_then (c_seq (c_seq (c_region ?_))))
    refine o_p (p_load_agg (i := 14) (vs := [Vi b.size, Vi b.hashes, .slice ab_0 b.set.length cb_0]) rfl rfl sh24 rfl rfl) ?_
    refine o_call0 (v := Vi (Bl.check b)) rfl (bloomCheck_ok b ab_0 cb_0) hf15 (fun w hw => (rd_base (i := 16) rfl hb_0) w hw) rfl ?_
    refine o_as rfl rfl ?_
    refine o_nil (q_then (c_seq (c_region ?_)))
    refine o_mv rfl rfl ?_
    refine o_p (p_eq rfl rfl) ?_
    refine o_mv rfl rfl ?_
    refine o_and (p := 101) 13 ((a.size != b.size) || (a.hashes != b.hashes)) ?_ ?_ ?_
    ·intro hb36 hk
     simp only [beq_iff_eq] at hb36
     refine o_unguard 88 rfl rfl ?_
     refine o_p (p_fieldAddr (j' := 0) rfl fo24_0 rfl) ?_
     refine o_unguard 88 rfl rfl ?_
     refine o_p (p_load (i := 15) (v := Vi a.size) rfl rfl sh3 rfl) ?_
     refine o_unguard 88 rfl rfl ?_
     refine o_p (p_fieldAddr (j' := 0) rfl fo24_0 rfl) ?_
     refine o_unguard 88 rfl rfl ?_
     refine o_p (p_load (i := 14) (v := Vi b.size) rfl rfl sh3 rfl) ?_
     refine o_unguard 88 rfl rfl ?_
     refine o_p (p_ne rfl rfl) ?_
     refine o_unguard 88 rfl rfl ?_
     refine o_mv rfl rfl ?_
     refine o_or (p := 100) 6 (a.hashes != b.hashes) ?_ ?_ ?_
     ·intro hb37 hk
      simp only [bne_eq_false_iff_eq] at hb37
      refine o_unguard 94 rfl rfl ?_
      refine o_p (p_fieldAddr (j' := 1) rfl fo24_1 rfl) ?_
      refine o_unguard 94 rfl rfl ?_
      refine o_p (p_load (i := 15) (v := Vi a.hashes) rfl rfl sh3 rfl) ?_
      refine o_unguard 94 rfl rfl ?_
      refine o_p (p_fieldAddr (j' := 1) rfl fo24_1 rfl) ?_
      refine o_unguard 94 rfl rfl ?_
      refine o_p (p_load (i := 14) (v := Vi b.hashes) rfl rfl sh3 rfl) ?_
      refine o_unguard 94 rfl rfl ?_
      refine o_p (p_ne rfl rfl) ?_
      refine o_unguard 88 rfl rfl ?_
      refine o_pf rfl rfl rfl ?_
      exact o_sub (sr (Sub.skip rfl (Sub.skip rfl (Sub.skip rfl (Sub.skip rfl (Sub.skip rfl (Sub.skip rfl (Sub.skip rfl (Sub.refl _))))))))) hk
     ·intro hb37 hk
      refine o_guard_no rfl 94 rfl rfl rfl rfl rfl ?_
      refine o_guard_no rfl 94 rfl rfl rfl rfl rfl ?_
      refine o_guard_no rfl 94 rfl rfl rfl rfl rfl ?_
      refine o_guard_no rfl 94 rfl rfl rfl rfl rfl ?_
      refine o_guard_no rfl 94 rfl rfl rfl rfl rfl ?_
      refine o_unguard 88 rfl rfl ?_
      refine o_pt rfl rfl rfl ?_
      exact o_sub (sr (Sub.skip rfl (Sub.skip rfl (Sub.skip rfl (Sub.skip rfl (Sub.skip rfl (Sub.skip rfl (Sub.skip rfl (Sub.refl _))))))))) hk
     refine o_pt rfl rfl rfl ?_
     exact o_sub (sr (Sub.skip rfl (Sub.skip rfl (Sub.skip rfl (Sub.skip rfl (Sub.skip rfl (Sub.skip rfl (Sub.skip rfl (Sub.skip rfl (Sub.refl _)))))))))) hk
    ·intro hb36 hk
     refine o_guard_no rfl 88 rfl rfl rfl rfl rfl ?_
     refine o_guard_no rfl 88 rfl rfl rfl rfl rfl ?_
     refine o_guard_no rfl 88 rfl rfl rfl rfl rfl ?_
     refine o_guard_no rfl 88 rfl rfl rfl rfl rfl ?_
     refine o_guard_no rfl 88 rfl rfl rfl rfl rfl ?_
     refine o_guard_no rfl 88 rfl rfl rfl rfl rfl ?_
     refine o_guard_no rfl 94 rfl rfl rfl rfl rfl ?_
     refine o_guard_no rfl 94 rfl rfl rfl rfl rfl ?_
     refine o_guard_no rfl 94 rfl rfl rfl rfl rfl ?_
     refine o_guard_no rfl 94 rfl rfl rfl rfl rfl ?_
     refine o_guard_no rfl 94 rfl rfl rfl rfl rfl ?_
     refine o_guard_no rfl 88 rfl rfl rfl rfl rfl ?_
     refine o_pf rfl rfl rfl ?_
     exact o_sub (sr (Sub.skip rfl (Sub.skip rfl (Sub.skip rfl (Sub.skip rfl (Sub.skip rfl (Sub.skip rfl (Sub.skip rfl (Sub.skip rfl (Sub.skip rfl (Sub.skip rfl (Sub.skip rfl (Sub.skip rfl (Sub.skip rfl (Sub.skip rfl (Sub.refl _)))))))))))))))) hk
    refine o_nil (q_then ?_)
    refine c_cond rfl (fun hc38 => ?_) (fun hc38 => ?_)
    ·simp only [Bool.and_eq_true, beq_iff_eq, Bool.or_eq_true, bne_iff_ne, ne_eq] at hc38
     refine c_region ?_
     refine o_as rfl rfl ?_
     refine o_nil (q_then (c_seq (c_region ?_)))
     refine o_p (p_fieldAddr (j' := 0) rfl fo24_0 rfl) ?_
     refine o_p (p_load (i := 15) (v := Vi a.size) rfl rfl sh3 rfl) ?_
     refine o_p (p_rem (p := a.size) (q := 2) rfl rfl (by decide)) ?_
     refine o_p (p_eq rfl rfl) ?_
     refine o_nil (q_then ?_)
     refine c_cond rfl (fun hc39 => ?_) (fun hc39 => ?_)
     ·simp only [beq_iff_eq] at hc39
      refine c_region ?_
      refine o_as rfl rfl ?_
      refine o_nil ?_
      refine q_heap (H' := [loose tInt (False) (fun _ => False) none 0 ([] : List Int), loose tInt (False) (fun _ => False) none 0 ([] : List Int), loose tInt (False) (fun _ => False) none 0 ([] : List Int), loose tInt (False) (fun _ => False) none 0 ([] : List Int), loose tInt (False) (fun _ => False) none 0 ([] : List Int), box B28 [Vi 0, Vi 0, .slice none 0 0] 24, box B27 [Vi 0, Vi 0, .slice none 0 0] 24, box B26 [Vi 0, Vi 0, .slice none 0 0] 24, box B25 [Vi ((Bl.fold a).size), Vi ((Bl.fold a).hashes), .slice a22 ((Bl.fold a).set).length c23] 24, own tInt S20 a22 c23 ((Bl.fold a).set), box B19 [Vi ((Bl.uni a b).size), Vi ((Bl.uni a b).hashes), .slice a16 ((Bl.uni a b).set).length c17] 24, own tInt S14 a16 c17 ((Bl.uni a b).set), box B13 [Vi ((Bl.add a s).size), Vi ((Bl.add a s).hashes), .slice a10 ((Bl.add a s).set).length c11] 24, own tInt S8 a10 c11 ((Bl.add a s).set), own tInt S3 a5 c6 (Bl.bits a s), box B2 [Vi b.size, Vi b.hashes, .slice ab_0 b.set.length cb_0] 24, box B1 [Vi a.size, Vi a.hashes, .slice aa_0 a.set.length ca_0] 24, base w0]) (fun w hw => HeapIs.looseNil tInt hw) ?_
      refine q_heap (H' := [loose tInt (False) (fun _ => False) none 0 ([] : List Int), loose tInt (False) (fun _ => False) none 0 ([] : List Int), loose tInt (False) (fun _ => False) none 0 ([] : List Int), loose tInt (False) (fun _ => False) none 0 ([] : List Int), loose tInt (False) (fun _ => False) none 0 ([] : List Int), loose tInt (False) (fun _ => False) none 0 ([] : List Int), box B28 [Vi 0, Vi 0, .slice none 0 0] 24, box B27 [Vi 0, Vi 0, .slice none 0 0] 24, box B26 [Vi 0, Vi 0, .slice none ([] : List Int).length 0] 24, box B25 [Vi ((Bl.fold a).size), Vi ((Bl.fold a).hashes), .slice a22 ((Bl.fold a).set).length c23] 24, own tInt S20 a22 c23 ((Bl.fold a).set), box B19 [Vi ((Bl.uni a b).size), Vi ((Bl.uni a b).hashes), .slice a16 ((Bl.uni a b).set).length c17] 24, own tInt S14 a16 c17 ((Bl.uni a b).set), box B13 [Vi ((Bl.add a s).size), Vi ((Bl.add a s).hashes), .slice a10 ((Bl.add a s).set).length c11] 24, own tInt S8 a10 c11 ((Bl.add a s).set), own tInt S3 a5 c6 (Bl.bits a s), box B2 [Vi b.size, Vi b.hashes, .slice ab_0 b.set.length cb_0] 24, box B1 [Vi a.size, Vi a.hashes, .slice aa_0 a.set.length ca_0] 24, base w0]) (fun w hw => HeapIs.looseNil tInt hw) ?_
      refine q_heap (H' := [loose tInt (False) (fun _ => False) none 0 ([] : List Int), loose tInt (False) (fun _ => False) none 0 ([] : List Int), loose tInt (False) (fun _ => False) none 0 ([] : List Int), loose tInt (False) (fun _ => False) none 0 ([] : List Int), loose tInt (False) (fun _ => False) none 0 ([] : List Int), loose tInt (False) (fun _ => False) none 0 ([] : List Int), loose tInt (False) (fun _ => False) none 0 ([] : List Int), box B28 [Vi 0, Vi 0, .slice none 0 0] 24, box B27 [Vi 0, Vi 0, .slice none ([] : List Int).length 0] 24, box B26 [Vi 0, Vi 0, .slice none ([] : List Int).length 0] 24, box B25 [Vi ((Bl.fold a).size), Vi ((Bl.fold a).hashes), .slice a22 ((Bl.fold a).set).length c23] 24, own tInt S20 a22 c23 ((Bl.fold a).set), box B19 [Vi ((Bl.uni a b).size), Vi ((Bl.uni a b).hashes), .slice a16 ((Bl.uni a b).set).length c17] 24, own tInt S14 a16 c17 ((Bl.uni a b).set), box B13 [Vi ((Bl.add a s).size), Vi ((Bl.add a s).hashes), .slice a10 ((Bl.add a s).set).length c11] 24, own tInt S8 a10 c11 ((Bl.add a s).set), own tInt S3 a5 c6 (Bl.bits a s), box B2 [Vi b.size, Vi b.hashes, .slice ab_0 b.set.length cb_0] 24, box B1 [Vi a.size, Vi a.hashes, .slice aa_0 a.set.length ca_0] 24, base w0]) (fun w hw => HeapIs.looseNil tInt hw) ?_
      refine q_join hK33 (2, 7, 4, ([] : List Int), none, 0, (fun _ => False), false, (⟨0, 0, ([] : List Int)⟩ : DFilter), none, 0, (fun _ => False), (⟨0, 0, ([] : List Int)⟩ : DFilter), none, 0, (fun _ => False), (⟨0, 0, ([] : List Int)⟩ : DFilter), none, 0, (fun _ => False)) ?_ (sr (sr (sr (sr (sr (sr (sr (sr (sr (sr (sr (sr (sr (sr (sr (sr (sr (sr (sr (sr (Sub.nil _))))))))))))))))))))) (pk [0, 1, 2, 6, 7, 8, 9, 10, 11, 12, 13, 14, 15, 16, 17, 18, 19])
      clear hK33
      refine ⟨?_, ?_, ?_⟩
      ·first | exact Bl.sA0 s hck | exact Bl.sA1 hck (by omega) | exact Bl.sA2 hck (by omega)
      ·first | exact Bl.sB0 b hck | exact Bl.sB1 hck (by omega) | exact Bl.sB2 hck (by omega) (by omega) | exact Bl.sB3 hck (by omega) (by omega)
      ·first | exact Bl.sC0 hck | exact Bl.sC1 hck (by omega) | exact Bl.sC2 hck (by omega)
     ·simp only [beq_eq_false_iff_ne, ne_eq] at hc39
      refine c_held hmix [loose tInt (False) (fun _ => False) none 0 ([] : List Int), loose tInt (False) (fun _ => False) none 0 ([] : List Int), loose tInt (False) (fun _ => False) none 0 ([] : List Int), loose tInt (False) (fun _ => False) none 0 ([] : List Int), box B27 [Vi 0, Vi 0, .slice none 0 0] 24, box B26 [Vi 0, Vi 0, .slice none 0 0] 24, box B25 [Vi ((Bl.fold a).size), Vi ((Bl.fold a).hashes), .slice a22 ((Bl.fold a).set).length c23] 24, own tInt S20 a22 c23 ((Bl.fold a).set), box B19 [Vi ((Bl.uni a b).size), Vi ((Bl.uni a b).hashes), .slice a16 ((Bl.uni a b).set).length c17] 24, own tInt S14 a16 c17 ((Bl.uni a b).set), box B13 [Vi ((Bl.add a s).size), Vi ((Bl.add a s).hashes), .slice a10 ((Bl.add a s).set).length c11] 24, own tInt S8 a10 c11 ((Bl.add a s).set), own tInt S3 a5 c6 (Bl.bits a s), box B2 [Vi b.size, Vi b.hashes, .slice ab_0 b.set.length cb_0] 24, box B1 [Vi a.size, Vi a.hashes, .slice aa_0 a.set.length ca_0] 24, base w0] rfl rfl ?_
      refine h_tk (i := 0) (ls := #[T1,F0,F0,F0,F0,F0,F0,F0,F0]) rfl (p_fieldAddr (j' := 0) rfl fo24_0 rfl) (dp (lj (lj (lj (lj (lz (lj (lj (lj (lj (lj (lj (lj (lj (lj (lj (lj (lj (ln))))))))))))))))))) ?_
      refine h_tk (i := 1) (ls := #[T1,T1,F0,F0,F0,F0,F0,F0,F0]) rfl (p_load (i := 14) (v := Vi a.size) rfl rfl sh3 rfl) (dp (lj (lj (lj (lj (lz (lj (lj (lj (lj (lj (lj (lj (lj (lj (lj (lj (lj (ln))))))))))))))))))) ?_
      refine h_tk (i := 2) (ls := #[T1,T1,T1,F0,F0,F0,F0,F0,F0]) rfl (p_quob (p := a.size) (q := 2) rfl rfl (by decide) (by omega)) (dp (lj (lj (lj (lj (lz (lj (lj (lj (lj (lj (lj (lj (lj (lj (lj (lj (lj (ln))))))))))))))))))) ?_
      refine h_tk (i := 3) (ls := #[T1,T1,T1,T1,F0,F0,F0,F0,F0]) rfl (p_fieldAddr (j' := 1) rfl fo24_1 rfl) (dp (lj (lj (lj (lj (lz (lj (lj (lj (lj (lj (lj (lj (lj (lj (lj (lj (lj (ln))))))))))))))))))) ?_
      refine h_tk (i := 4) (ls := #[T1,T1,T1,T1,T1,F0,F0,F0,F0]) rfl (p_load (i := 14) (v := Vi a.hashes) rfl rfl sh3 rfl) (dp (lj (lj (lj (lj (lz (lj (lj (lj (lj (lj (lj (lj (lj (lj (lj (lj (lj (ln))))))))))))))))))) ?_
      refine h_tk (i := 5) (ls := #[T1,T1,T1,T1,T1,T1,F0,F0,F0]) rfl (p_load_agg (i := 14) (vs := [Vi a.size, Vi a.hashes, .slice aa_0 a.set.length ca_0]) rfl rfl sh24 rfl rfl) (dp (lj (lj (lj (lj (lz (lj (lj (lj (lj (lj (lj (lj (lj (lj (lj (lj (lj (ln))))))))))))))))))) ?_
      refine h_one (i := 6) (ls := #[T1,T1,T1,T1,T1,T1,T1,F0,F0]) (by kernel_rfl) rfl rfl ?_
      refine o_callM rfl (bloomHalf_ok a aa_0 ca_0 (by first | assumption | omega)) hf19 (fun w hw => (rd_base (i := 16) rfl ha_0) w hw) rfl (fun _ _ _ _ ha hA => SlO.agree ha hA) ?_
      rintro ⟨a43_6, c43_6⟩ S43_6
      refine o_know (fun w hw => own_len (i := 0) (T := tInt) hw rfl) (fun hlr43_6 => ?_)
      refine o_nil ?_
      refine h_next (dp (lz (lj (lj (lj (lj (lz (lj (lj (lj (lj (lj (lj (lj (lj (lj (lj (lj (lj (ln)))))))))))))))))))) ?_
      refine h_tk (i := 7) (ls := #[T1,T1,T1,T1,T1,T1,T1,T1,F0]) rfl (p_build (cells := [Vi (a.size.tdiv 2), Vi a.hashes, .slice a43_6 (Bl.half a).length c43_6]) fp24 ze24 rfl rfl) (dp (lz (lj (lj (lj (lj (lz (lj (lj (lj (lj (lj (lj (lj (lj (lj (lj (lj (lj (ln)))))))))))))))))))) ?_
      refine h_one (i := 8) (ls := #[T1,T1,T1,T1,T1,T1,T1,T1,T1]) (by kernel_rfl) rfl rfl ?_
      refine o_storeN (i := 5) (vs := [Vi (a.size.tdiv 2), Vi a.hashes, .slice a43_6 (Bl.half a).length c43_6]) (cs' := [Vi (a.size.tdiv 2), Vi a.hashes, .slice a43_6 (Bl.half a).length c43_6]) rfl rfl rfl sz24 rfl rfl rfl rfl ?_
      refine o_nil ?_
      refine h_next (dp (lz (lj (lj (lj (lj (lz (lj (lj (lj (lj (lj (lj (lj (lj (lj (lj (lj (lj (ln)))))))))))))))))))) ?_
      refine h_done (by kernel_rfl) ?_
      refine q_heap (H' := [loose tInt (False) (fun _ => False) none 0 ([] : List Int), own tInt S43_6 a43_6 c43_6 (Bl.half a), loose tInt (False) (fun _ => False) none 0 ([] : List Int), loose tInt (False) (fun _ => False) none 0 ([] : List Int), loose tInt (False) (fun _ => False) none 0 ([] : List Int), loose tInt (False) (fun _ => False) none 0 ([] : List Int), box B28 [Vi (a.size.tdiv 2), Vi a.hashes, .slice a43_6 (Bl.half a).length c43_6] 24, box B27 [Vi 0, Vi 0, .slice none 0 0] 24, box B26 [Vi 0, Vi 0, .slice none 0 0] 24, box B25 [Vi ((Bl.fold a).size), Vi ((Bl.fold a).hashes), .slice a22 ((Bl.fold a).set).length c23] 24, own tInt S20 a22 c23 ((Bl.fold a).set), box B19 [Vi ((Bl.uni a b).size), Vi ((Bl.uni a b).hashes), .slice a16 ((Bl.uni a b).set).length c17] 24, own tInt S14 a16 c17 ((Bl.uni a b).set), box B13 [Vi ((Bl.add a s).size), Vi ((Bl.add a s).hashes), .slice a10 ((Bl.add a s).set).length c11] 24, own tInt S8 a10 c11 ((Bl.add a s).set), own tInt S3 a5 c6 (Bl.bits a s), box B2 [Vi b.size, Vi b.hashes, .slice ab_0 b.set.length cb_0] 24, box B1 [Vi a.size, Vi a.hashes, .slice aa_0 a.set.length ca_0] 24, base w0]) (fun w hw => HeapIs.looseNil tInt hw) ?_
      refine q_heap (H' := [loose tInt (False) (fun _ => False) none 0 ([] : List Int), loose tInt (False) (fun _ => False) none 0 ([] : List Int), own tInt S43_6 a43_6 c43_6 (Bl.half a), loose tInt (False) (fun _ => False) none 0 ([] : List Int), loose tInt (False) (fun _ => False) none 0 ([] : List Int), loose tInt (False) (fun _ => False) none 0 ([] : List Int), loose tInt (False) (fun _ => False) none 0 ([] : List Int), box B28 [Vi (a.size.tdiv 2), Vi a.hashes, .slice a43_6 (Bl.half a).length c43_6] 24, box B27 [Vi 0, Vi 0, .slice none 0 0] 24, box B26 [Vi 0, Vi 0, .slice none ([] : List Int).length 0] 24, box B25 [Vi ((Bl.fold a).size), Vi ((Bl.fold a).hashes), .slice a22 ((Bl.fold a).set).length c23] 24, own tInt S20 a22 c23 ((Bl.fold a).set), box B19 [Vi ((Bl.uni a b).size), Vi ((Bl.uni a b).hashes), .slice a16 ((Bl.uni a b).set).length c17] 24, own tInt S14 a16 c17 ((Bl.uni a b).set), box B13 [Vi ((Bl.add a s).size), Vi ((Bl.add a s).hashes), .slice a10 ((Bl.add a s).set).length c11] 24, own tInt S8 a10 c11 ((Bl.add a s).set), own tInt S3 a5 c6 (Bl.bits a s), box B2 [Vi b.size, Vi b.hashes, .slice ab_0 b.set.length cb_0] 24, box B1 [Vi a.size, Vi a.hashes, .slice aa_0 a.set.length ca_0] 24, base w0]) (fun w hw => HeapIs.looseNil tInt hw) ?_
      refine q_heap (H' := [loose tInt (False) (fun _ => False) none 0 ([] : List Int), loose tInt (False) (fun _ => False) none 0 ([] : List Int), loose tInt (False) S43_6 a43_6 c43_6 (Bl.half a), loose tInt (False) (fun _ => False) none 0 ([] : List Int), loose tInt (False) (fun _ => False) none 0 ([] : List Int), loose tInt (False) (fun _ => False) none 0 ([] : List Int), loose tInt (False) (fun _ => False) none 0 ([] : List Int), box B28 [Vi (a.size.tdiv 2), Vi a.hashes, .slice a43_6 (Bl.half a).length c43_6] 24, box B27 [Vi 0, Vi 0, .slice none ([] : List Int).length 0] 24, box B26 [Vi 0, Vi 0, .slice none ([] : List Int).length 0] 24, box B25 [Vi ((Bl.fold a).size), Vi ((Bl.fold a).hashes), .slice a22 ((Bl.fold a).set).length c23] 24, own tInt S20 a22 c23 ((Bl.fold a).set), box B19 [Vi ((Bl.uni a b).size), Vi ((Bl.uni a b).hashes), .slice a16 ((Bl.uni a b).set).length c17] 24, own tInt S14 a16 c17 ((Bl.uni a b).set), box B13 [Vi ((Bl.add a s).size), Vi ((Bl.add a s).hashes), .slice a10 ((Bl.add a s).set).length c11] 24, own tInt S8 a10 c11 ((Bl.add a s).set), own tInt S3 a5 c6 (Bl.bits a s), box B2 [Vi b.size, Vi b.hashes, .slice ab_0 b.set.length cb_0] 24, box B1 [Vi a.size, Vi a.hashes, .slice aa_0 a.set.length ca_0] 24, base w0]) (fun w hw => HeapIs.toLoose (i := 2) (T := tInt) rfl hw) ?_
      refine q_join hK33 (2, 7, (Bl.check a), ([] : List Int), none, 0, (fun _ => False), false, (⟨0, 0, ([] : List Int)⟩ : DFilter), none, 0, (fun _ => False), (⟨0, 0, ([] : List Int)⟩ : DFilter), none, 0, (fun _ => False), (⟨(a.size.tdiv 2), a.hashes, (Bl.half a)⟩ : DFilter), a43_6, c43_6, S43_6) ?_ (sr (sr (sr (sr (sr (sr (sr (sr (sr (sr (sr (sr (sr (sr (sr (sr (sr (sr (sr (sr (Sub.nil _))))))))))))))))))))) (pk [2, 0, 1, 6, 7, 8, 9, 10, 11, 12, 13, 14, 15, 16, 17, 18, 19])
      clear hK33
      refine ⟨?_, ?_, ?_⟩
      ·first | exact Bl.sA0 s hck | exact Bl.sA1 hck (by omega) | exact Bl.sA2 hck (by omega)
      ·first | exact Bl.sB0 b hck | exact Bl.sB1 hck (by omega) | exact Bl.sB2 hck (by omega) (by omega) | exact Bl.sB3 hck (by omega) (by omega)
      ·first | exact Bl.sC0 hck | exact Bl.sC1 hck (by omega) | exact Bl.sC2 hck (by omega)
    ·simp only [Bool.and_eq_false_iff, beq_eq_false_iff_ne, ne_eq, Bool.or_eq_false_iff, bne_eq_false_iff_eq] at hc38
     refine c_seq (c_region ?_)
     refine o_mv rfl rfl ?_
     refine o_p (p_eq rfl rfl) ?_
     refine o_nil (q_then ?_)
     refine c_cond rfl (fun hc46 => ?_) (fun hc46 => ?_)
     ·simp only [beq_iff_eq] at hc46
      refine c_held hmix [loose tInt (False) (fun _ => False) none 0 ([] : List Int), loose tInt (False) (fun _ => False) none 0 ([] : List Int), loose tInt (False) (fun _ => False) none 0 ([] : List Int), loose tInt (False) (fun _ => False) none 0 ([] : List Int), box B28 [Vi 0, Vi 0, .slice none 0 0] 24, box B26 [Vi 0, Vi 0, .slice none 0 0] 24, box B25 [Vi ((Bl.fold a).size), Vi ((Bl.fold a).hashes), .slice a22 ((Bl.fold a).set).length c23] 24, own tInt S20 a22 c23 ((Bl.fold a).set), box B19 [Vi ((Bl.uni a b).size), Vi ((Bl.uni a b).hashes), .slice a16 ((Bl.uni a b).set).length c17] 24, own tInt S14 a16 c17 ((Bl.uni a b).set), box B13 [Vi ((Bl.add a s).size), Vi ((Bl.add a s).hashes), .slice a10 ((Bl.add a s).set).length c11] 24, own tInt S8 a10 c11 ((Bl.add a s).set), own tInt S3 a5 c6 (Bl.bits a s), box B2 [Vi b.size, Vi b.hashes, .slice ab_0 b.set.length cb_0] 24, box B1 [Vi a.size, Vi a.hashes, .slice aa_0 a.set.length ca_0] 24, base w0] rfl rfl ?_
      refine h_tk (i := 0) (ls := #[T1,F0,F0,F0,F0,F0,F0,F0,F0,F0,F0,F0,F0]) rfl (p_fieldAddr (j' := 0) rfl fo24_0 rfl) (dp (lj (lj (lj (lj (lj (lz (lj (lj (lj (lj (lj (lj (lj (lj (lj (lj (lj (ln))))))))))))))))))) ?_
      refine h_tk (i := 1) (ls := #[T1,T1,F0,F0,F0,F0,F0,F0,F0,F0,F0,F0,F0]) rfl (p_load (i := 14) (v := Vi a.size) rfl rfl sh3 rfl) (dp (lj (lj (lj (lj (lj (lz (lj (lj (lj (lj (lj (lj (lj (lj (lj (lj (lj (ln))))))))))))))))))) ?_
      refine h_tk (i := 2) (ls := #[T1,T1,T1,F0,F0,F0,F0,F0,F0,F0,F0,F0,F0]) rfl (p_fieldAddr (j' := 1) rfl fo24_1 rfl) (dp (lj (lj (lj (lj (lj (lz (lj (lj (lj (lj (lj (lj (lj (lj (lj (lj (lj (ln))))))))))))))))))) ?_
      refine h_tk (i := 3) (ls := #[T1,T1,T1,T1,F0,F0,F0,F0,F0,F0,F0,F0,F0]) rfl (p_load (i := 14) (v := Vi a.hashes) rfl rfl sh3 rfl) (dp (lj (lj (lj (lj (lj (lz (lj (lj (lj (lj (lj (lj (lj (lj (lj (lj (lj (ln))))))))))))))))))) ?_
      refine h_tk (i := 4) (ls := #[T1,T1,T1,T1,T1,F0,F0,F0,F0,F0,F0,F0,F0]) rfl (p_fieldAddr (j' := 2) rfl fo24_2 rfl) (dp (lj (lj (lj (lj (lj (lz (lj (lj (lj (lj (lj (lj (lj (lj (lj (lj (lj (ln))))))))))))))))))) ?_
      refine h_tk (i := 5) (ls := #[T1,T1,T1,T1,T1,T1,F0,F0,F0,F0,F0,F0,F0]) rfl (p_load (i := 14) (v := .slice aa_0 a.set.length ca_0) rfl rfl sh22 rfl) (dp (lj (lj (lj (lj (lj (lz (lj (lj (lj (lj (lj (lj (lj (lj (lj (lj (lj (ln))))))))))))))))))) ?_
      refine h_tk (i := 6) (ls := #[T1,T1,T1,T1,T1,T1,T1,F0,F0,F0,F0,F0,F0]) rfl (p_fieldAddr (j' := 2) rfl fo24_2 rfl) (dp (lj (lj (lj (lj (lj (lz (lj (lj (lj (lj (lj (lj (lj (lj (lj (lj (lj (ln))))))))))))))))))) ?_
      refine h_tk (i := 7) (ls := #[T1,T1,T1,T1,T1,T1,T1,T1,F0,F0,F0,F0,F0]) rfl (p_load (i := 13) (v := .slice ab_0 b.set.length cb_0) rfl rfl sh22 rfl) (dp (lj (lj (lj (lj (lj (lz (lj (lj (lj (lj (lj (lj (lj (lj (lj (lj (lj (ln))))))))))))))))))) ?_
      refine h_tk (i := 8) (ls := #[T1,T1,T1,T1,T1,T1,T1,T1,T1,F0,F0,F0,F0]) rfl (p_fieldAddr (j' := 0) rfl fo24_0 rfl) (dp (lj (lj (lj (lj (lj (lz (lj (lj (lj (lj (lj (lj (lj (lj (lj (lj (lj (ln))))))))))))))))))) ?_
      refine h_tk (i := 9) (ls := #[T1,T1,T1,T1,T1,T1,T1,T1,T1,T1,F0,F0,F0]) rfl (p_load (i := 14) (v := Vi a.size) rfl rfl sh3 rfl) (dp (lj (lj (lj (lj (lj (lz (lj (lj (lj (lj (lj (lj (lj (lj (lj (lj (lj (ln))))))))))))))))))) ?_
      refine h_one (i := 10) (ls := #[T1,T1,T1,T1,T1,T1,T1,T1,T1,T1,T1,F0,F0]) (by kernel_rfl) rfl rfl ?_
      refine o_callM rfl (setBoth_ok a.set aa_0 ca_0 b.set ab_0 cb_0 a.size (by first | assumption | omega)) hf17 (fun w hw => ⟨(rd_base (i := 16) rfl ha_0) w hw, (rd_base (i := 16) rfl hb_0) w hw⟩) rfl (fun _ _ _ _ ha hA => SlO.agree ha hA) ?_
      rintro ⟨a47_10, c47_10⟩ S47_10
      refine o_know (fun w hw => own_len (i := 0) (T := tInt) hw rfl) (fun hlr47_10 => ?_)
      refine o_nil ?_
      refine h_next (dp (lz (lj (lj (lj (lj (lj (lz (lj (lj (lj (lj (lj (lj (lj (lj (lj (lj (lj (ln)))))))))))))))))))) ?_
      refine h_tk (i := 11) (ls := #[T1,T1,T1,T1,T1,T1,T1,T1,T1,T1,T1,T1,F0]) rfl (p_build (cells := [Vi a.size, Vi a.hashes, .slice a47_10 (Bl.both a.set b.set a.size).length c47_10]) fp24 ze24 rfl rfl) (dp (lz (lj (lj (lj (lj (lj (lz (lj (lj (lj (lj (lj (lj (lj (lj (lj (lj (lj (ln)))))))))))))))))))) ?_
      refine h_one (i := 12) (ls := #[T1,T1,T1,T1,T1,T1,T1,T1,T1,T1,T1,T1,T1]) (by kernel_rfl) rfl rfl ?_
      refine o_storeN (i := 6) (vs := [Vi a.size, Vi a.hashes, .slice a47_10 (Bl.both a.set b.set a.size).length c47_10]) (cs' := [Vi a.size, Vi a.hashes, .slice a47_10 (Bl.both a.set b.set a.size).length c47_10]) rfl rfl rfl sz24 rfl rfl rfl rfl ?_
      refine o_nil ?_
      refine h_next (dp (lz (lj (lj (lj (lj (lj (lz (lj (lj (lj (lj (lj (lj (lj (lj (lj (lj (lj (ln)))))))))))))))))))) ?_
      refine h_done (by kernel_rfl) ?_
      refine q_then (c_seq (c_region ?_))
      refine o_p (p_fieldAddr (j' := 0) rfl fo24_0 rfl) ?_
      refine o_p (p_load (i := 16) (v := Vi a.size) rfl rfl sh3 rfl) ?_
      refine o_p (p_rem (p := a.size) (q := 2) rfl rfl (by decide)) ?_
      refine o_p (p_eq rfl rfl) ?_
      refine o_nil (q_then ?_)
      refine c_cond rfl (fun hc48 => ?_) (fun hc48 => ?_)
      ·simp only [beq_iff_eq] at hc48
       refine c_region ?_
       refine o_as rfl rfl ?_
       refine o_nil ?_
       refine q_heap (H' := [loose tInt (False) (fun _ => False) none 0 ([] : List Int), own tInt S47_10 a47_10 c47_10 (Bl.both a.set b.set a.size), loose tInt (False) (fun _ => False) none 0 ([] : List Int), loose tInt (False) (fun _ => False) none 0 ([] : List Int), loose tInt (False) (fun _ => False) none 0 ([] : List Int), loose tInt (False) (fun _ => False) none 0 ([] : List Int), box B28 [Vi 0, Vi 0, .slice none 0 0] 24, box B27 [Vi a.size, Vi a.hashes, .slice a47_10 (Bl.both a.set b.set a.size).length c47_10] 24, box B26 [Vi 0, Vi 0, .slice none 0 0] 24, box B25 [Vi ((Bl.fold a).size), Vi ((Bl.fold a).hashes), .slice a22 ((Bl.fold a).set).length c23] 24, own tInt S20 a22 c23 ((Bl.fold a).set), box B19 [Vi ((Bl.uni a b).size), Vi ((Bl.uni a b).hashes), .slice a16 ((Bl.uni a b).set).length c17] 24, own tInt S14 a16 c17 ((Bl.uni a b).set), box B13 [Vi ((Bl.add a s).size), Vi ((Bl.add a s).hashes), .slice a10 ((Bl.add a s).set).length c11] 24, own tInt S8 a10 c11 ((Bl.add a s).set), own tInt S3 a5 c6 (Bl.bits a s), box B2 [Vi b.size, Vi b.hashes, .slice ab_0 b.set.length cb_0] 24, box B1 [Vi a.size, Vi a.hashes, .slice aa_0 a.set.length ca_0] 24, base w0]) (fun w hw => HeapIs.looseNil tInt hw) ?_
       refine q_heap (H' := [loose tInt (False) (fun _ => False) none 0 ([] : List Int), loose tInt (False) S47_10 a47_10 c47_10 (Bl.both a.set b.set a.size), loose tInt (False) (fun _ => False) none 0 ([] : List Int), loose tInt (False) (fun _ => False) none 0 ([] : List Int), loose tInt (False) (fun _ => False) none 0 ([] : List Int), loose tInt (False) (fun _ => False) none 0 ([] : List Int), box B28 [Vi 0, Vi 0, .slice none 0 0] 24, box B27 [Vi a.size, Vi a.hashes, .slice a47_10 (Bl.both a.set b.set a.size).length c47_10] 24, box B26 [Vi 0, Vi 0, .slice none ([] : List Int).length 0] 24, box B25 [Vi ((Bl.fold a).size), Vi ((Bl.fold a).hashes), .slice a22 ((Bl.fold a).set).length c23] 24, own tInt S20 a22 c23 ((Bl.fold a).set), box B19 [Vi ((Bl.uni a b).size), Vi ((Bl.uni a b).hashes), .slice a16 ((Bl.uni a b).set).length c17] 24, own tInt S14 a16 c17 ((Bl.uni a b).set), box B13 [Vi ((Bl.add a s).size), Vi ((Bl.add a s).hashes), .slice a10 ((Bl.add a s).set).length c11] 24, own tInt S8 a10 c11 ((Bl.add a s).set), own tInt S3 a5 c6 (Bl.bits a s), box B2 [Vi b.size, Vi b.hashes, .slice ab_0 b.set.length cb_0] 24, box B1 [Vi a.size, Vi a.hashes, .slice aa_0 a.set.length ca_0] 24, base w0]) (fun w hw => HeapIs.toLoose (i := 1) (T := tInt) rfl hw) ?_
       refine q_heap (H' := [loose tInt (False) (fun _ => False) none 0 ([] : List Int), loose tInt (False) (fun _ => False) none 0 ([] : List Int), loose tInt (False) S47_10 a47_10 c47_10 (Bl.both a.set b.set a.size), loose tInt (False) (fun _ => False) none 0 ([] : List Int), loose tInt (False) (fun _ => False) none 0 ([] : List Int), loose tInt (False) (fun _ => False) none 0 ([] : List Int), loose tInt (False) (fun _ => False) none 0 ([] : List Int), box B28 [Vi 0, Vi 0, .slice none 0 0] 24, box B27 [Vi a.size, Vi a.hashes, .slice a47_10 (Bl.both a.set b.set a.size).length c47_10] 24, box B26 [Vi 0, Vi 0, .slice none ([] : List Int).length 0] 24, box B25 [Vi ((Bl.fold a).size), Vi ((Bl.fold a).hashes), .slice a22 ((Bl.fold a).set).length c23] 24, own tInt S20 a22 c23 ((Bl.fold a).set), box B19 [Vi ((Bl.uni a b).size), Vi ((Bl.uni a b).hashes), .slice a16 ((Bl.uni a b).set).length c17] 24, own tInt S14 a16 c17 ((Bl.uni a b).set), box B13 [Vi ((Bl.add a s).size), Vi ((Bl.add a s).hashes), .slice a10 ((Bl.add a s).set).length c11] 24, own tInt S8 a10 c11 ((Bl.add a s).set), own tInt S3 a5 c6 (Bl.bits a s), box B2 [Vi b.size, Vi b.hashes, .slice ab_0 b.set.length cb_0] 24, box B1 [Vi a.size, Vi a.hashes, .slice aa_0 a.set.length ca_0] 24, base w0]) (fun w hw => HeapIs.looseNil tInt hw) ?_
       refine q_join hK33 (2, (Bl.check b), 4, ([] : List Int), none, 0, (fun _ => False), false, (⟨0, 0, ([] : List Int)⟩ : DFilter), none, 0, (fun _ => False), (⟨a.size, a.hashes, (Bl.both a.set b.set a.size)⟩ : DFilter), a47_10, c47_10, S47_10, (⟨0, 0, ([] : List Int)⟩ : DFilter), none, 0, (fun _ => False)) ?_ (sr (sr (sr (sr (sr (sr (sr (sr (sr (sr (sr (sr (sr (sr (sr (sr (sr (sr (sr (sr (Sub.nil _))))))))))))))))))))) (pk [0, 2, 1, 6, 7, 8, 9, 10, 11, 12, 13, 14, 15, 16, 17, 18, 19])
       clear hK33
       refine ⟨?_, ?_, ?_⟩
       ·first | exact Bl.sA0 s hck | exact Bl.sA1 hck (by omega) | exact Bl.sA2 hck (by omega)
       ·first | exact Bl.sB0 b hck | exact Bl.sB1 hck (by omega) | exact Bl.sB2 hck (by omega) (by omega) | exact Bl.sB3 hck (by omega) (by omega)
       ·first | exact Bl.sC0 hck | exact Bl.sC1 hck (by omega) | exact Bl.sC2 hck (by omega)
      ·simp only [beq_eq_false_iff_ne, ne_eq] at hc48
       refine c_held hmix [own tInt S47_10 a47_10 c47_10 (Bl.both a.set b.set a.size), loose tInt (False) (fun _ => False) none 0 ([] : List Int), loose tInt (False) (fun _ => False) none 0 ([] : List Int), loose tInt (False) (fun _ => False) none 0 ([] : List Int), loose tInt (False) (fun _ => False) none 0 ([] : List Int), box B27 [Vi a.size, Vi a.hashes, .slice a47_10 (Bl.both a.set b.set a.size).length c47_10] 24, box B26 [Vi 0, Vi 0, .slice none 0 0] 24, box B25 [Vi ((Bl.fold a).size), Vi ((Bl.fold a).hashes), .slice a22 ((Bl.fold a).set).length c23] 24, own tInt S20 a22 c23 ((Bl.fold a).set), box B19 [Vi ((Bl.uni a b).size), Vi ((Bl.uni a b).hashes), .slice a16 ((Bl.uni a b).set).length c17] 24, own tInt S14 a16 c17 ((Bl.uni a b).set), box B13 [Vi ((Bl.add a s).size), Vi ((Bl.add a s).hashes), .slice a10 ((Bl.add a s).set).length c11] 24, own tInt S8 a10 c11 ((Bl.add a s).set), own tInt S3 a5 c6 (Bl.bits a s), box B2 [Vi b.size, Vi b.hashes, .slice ab_0 b.set.length cb_0] 24, box B1 [Vi a.size, Vi a.hashes, .slice aa_0 a.set.length ca_0] 24, base w0] rfl rfl ?_
       refine h_tk (i := 0) (ls := #[T1,F0,F0,F0,F0,F0,F0,F0,F0]) rfl (p_fieldAddr (j' := 0) rfl fo24_0 rfl) (dp (lj (lj (lj (lj (lj (lz (lj (lj (lj (lj (lj (lj (lj (lj (lj (lj (lj (lj (ln)))))))))))))))))))) ?_
       refine h_tk (i := 1) (ls := #[T1,T1,F0,F0,F0,F0,F0,F0,F0]) rfl (p_load (i := 15) (v := Vi a.size) rfl rfl sh3 rfl) (dp (lj (lj (lj (lj (lj (lz (lj (lj (lj (lj (lj (lj (lj (lj (lj (lj (lj (lj (ln)))))))))))))))))))) ?_
       refine h_tk (i := 2) (ls := #[T1,T1,T1,F0,F0,F0,F0,F0,F0]) rfl (p_quob (p := a.size) (q := 2) rfl rfl (by decide) (by omega)) (dp (lj (lj (lj (lj (lj (lz (lj (lj (lj (lj (lj (lj (lj (lj (lj (lj (lj (lj (ln)))))))))))))))))))) ?_
       refine h_tk (i := 3) (ls := #[T1,T1,T1,T1,F0,F0,F0,F0,F0]) rfl (p_fieldAddr (j' := 1) rfl fo24_1 rfl) (dp (lj (lj (lj (lj (lj (lz (lj (lj (lj (lj (lj (lj (lj (lj (lj (lj (lj (lj (ln)))))))))))))))))))) ?_
       refine h_tk (i := 4) (ls := #[T1,T1,T1,T1,T1,F0,F0,F0,F0]) rfl (p_load (i := 15) (v := Vi a.hashes) rfl rfl sh3 rfl) (dp (lj (lj (lj (lj (lj (lz (lj (lj (lj (lj (lj (lj (lj (lj (lj (lj (lj (lj (ln)))))))))))))))))))) ?_
       refine h_tk (i := 5) (ls := #[T1,T1,T1,T1,T1,T1,F0,F0,F0]) rfl (p_load_agg (i := 15) (vs := [Vi a.size, Vi a.hashes, .slice aa_0 a.set.length ca_0]) rfl rfl sh24 rfl rfl) (dp (lj (lj (lj (lj (lj (lz (lj (lj (lj (lj (lj (lj (lj (lj (lj (lj (lj (lj (ln)))))))))))))))))))) ?_
       refine h_one (i := 6) (ls := #[T1,T1,T1,T1,T1,T1,T1,F0,F0]) (by kernel_rfl) rfl rfl ?_
       refine o_callM rfl (bloomHalf_ok a aa_0 ca_0 (by first | assumption | omega)) hf19 (fun w hw => (rd_base (i := 17) rfl ha_0) w hw) rfl (fun _ _ _ _ ha hA => SlO.agree ha hA) ?_
       rintro ⟨a51_6, c51_6⟩ S51_6
       refine o_know (fun w hw => own_len (i := 0) (T := tInt) hw rfl) (fun hlr51_6 => ?_)
       refine o_nil ?_
       refine h_next (dp (lz (lj (lj (lj (lj (lj (lz (lj (lj (lj (lj (lj (lj (lj (lj (lj (lj (lj (lj (ln))))))))))))))))))))) ?_
       refine h_tk (i := 7) (ls := #[T1,T1,T1,T1,T1,T1,T1,T1,F0]) rfl (p_build (cells := [Vi (a.size.tdiv 2), Vi a.hashes, .slice a51_6 (Bl.half a).length c51_6]) fp24 ze24 rfl rfl) (dp (lz (lj (lj (lj (lj (lj (lz (lj (lj (lj (lj (lj (lj (lj (lj (lj (lj (lj (lj (ln))))))))))))))))))))) ?_
       refine h_one (i := 8) (ls := #[T1,T1,T1,T1,T1,T1,T1,T1,T1]) (by kernel_rfl) rfl rfl ?_
       refine o_storeN (i := 6) (vs := [Vi (a.size.tdiv 2), Vi a.hashes, .slice a51_6 (Bl.half a).length c51_6]) (cs' := [Vi (a.size.tdiv 2), Vi a.hashes, .slice a51_6 (Bl.half a).length c51_6]) rfl rfl rfl sz24 rfl rfl rfl rfl ?_
       refine o_nil ?_
       refine h_next (dp (lz (lj (lj (lj (lj (lj (lz (lj (lj (lj (lj (lj (lj (lj (lj (lj (lj (lj (lj (ln))))))))))))))))))))) ?_
       refine h_done (by kernel_rfl) ?_
       refine q_heap (H' := [loose tInt (False) (fun _ => False) none 0 ([] : List Int), own tInt S51_6 a51_6 c51_6 (Bl.half a), own tInt S47_10 a47_10 c47_10 (Bl.both a.set b.set a.size), loose tInt (False) (fun _ => False) none 0 ([] : List Int), loose tInt (False) (fun _ => False) none 0 ([] : List Int), loose tInt (False) (fun _ => False) none 0 ([] : List Int), loose tInt (False) (fun _ => False) none 0 ([] : List Int), box B28 [Vi (a.size.tdiv 2), Vi a.hashes, .slice a51_6 (Bl.half a).length c51_6] 24, box B27 [Vi a.size, Vi a.hashes, .slice a47_10 (Bl.both a.set b.set a.size).length c47_10] 24, box B26 [Vi 0, Vi 0, .slice none 0 0] 24, box B25 [Vi ((Bl.fold a).size), Vi ((Bl.fold a).hashes), .slice a22 ((Bl.fold a).set).length c23] 24, own tInt S20 a22 c23 ((Bl.fold a).set), box B19 [Vi ((Bl.uni a b).size), Vi ((Bl.uni a b).hashes), .slice a16 ((Bl.uni a b).set).length c17] 24, own tInt S14 a16 c17 ((Bl.uni a b).set), box B13 [Vi ((Bl.add a s).size), Vi ((Bl.add a s).hashes), .slice a10 ((Bl.add a s).set).length c11] 24, own tInt S8 a10 c11 ((Bl.add a s).set), own tInt S3 a5 c6 (Bl.bits a s), box B2 [Vi b.size, Vi b.hashes, .slice ab_0 b.set.length cb_0] 24, box B1 [Vi a.size, Vi a.hashes, .slice aa_0 a.set.length ca_0] 24, base w0]) (fun w hw => HeapIs.looseNil tInt hw) ?_
       refine q_heap (H' := [loose tInt (False) (fun _ => False) none 0 ([] : List Int), own tInt S51_6 a51_6 c51_6 (Bl.half a), loose tInt (False) S47_10 a47_10 c47_10 (Bl.both a.set b.set a.size), loose tInt (False) (fun _ => False) none 0 ([] : List Int), loose tInt (False) (fun _ => False) none 0 ([] : List Int), loose tInt (False) (fun _ => False) none 0 ([] : List Int), loose tInt (False) (fun _ => False) none 0 ([] : List Int), box B28 [Vi (a.size.tdiv 2), Vi a.hashes, .slice a51_6 (Bl.half a).length c51_6] 24, box B27 [Vi a.size, Vi a.hashes, .slice a47_10 (Bl.both a.set b.set a.size).length c47_10] 24, box B26 [Vi 0, Vi 0, .slice none ([] : List Int).length 0] 24, box B25 [Vi ((Bl.fold a).size), Vi ((Bl.fold a).hashes), .slice a22 ((Bl.fold a).set).length c23] 24, own tInt S20 a22 c23 ((Bl.fold a).set), box B19 [Vi ((Bl.uni a b).size), Vi ((Bl.uni a b).hashes), .slice a16 ((Bl.uni a b).set).length c17] 24, own tInt S14 a16 c17 ((Bl.uni a b).set), box B13 [Vi ((Bl.add a s).size), Vi ((Bl.add a s).hashes), .slice a10 ((Bl.add a s).set).length c11] 24, own tInt S8 a10 c11 ((Bl.add a s).set), own tInt S3 a5 c6 (Bl.bits a s), box B2 [Vi b.size, Vi b.hashes, .slice ab_0 b.set.length cb_0] 24, box B1 [Vi a.size, Vi a.hashes, .slice aa_0 a.set.length ca_0] 24, base w0]) (fun w hw => HeapIs.toLoose (i := 2) (T := tInt) rfl hw) ?_
       refine q_heap (H' := [loose tInt (False) (fun _ => False) none 0 ([] : List Int), loose tInt (False) S51_6 a51_6 c51_6 (Bl.half a), loose tInt (False) S47_10 a47_10 c47_10 (Bl.both a.set b.set a.size), loose tInt (False) (fun _ => False) none 0 ([] : List Int), loose tInt (False) (fun _ => False) none 0 ([] : List Int), loose tInt (False) (fun _ => False) none 0 ([] : List Int), loose tInt (False) (fun _ => False) none 0 ([] : List Int), box B28 [Vi (a.size.tdiv 2), Vi a.hashes, .slice a51_6 (Bl.half a).length c51_6] 24, box B27 [Vi a.size, Vi a.hashes, .slice a47_10 (Bl.both a.set b.set a.size).length c47_10] 24, box B26 [Vi 0, Vi 0, .slice none ([] : List Int).length 0] 24, box B25 [Vi ((Bl.fold a).size), Vi ((Bl.fold a).hashes), .slice a22 ((Bl.fold a).set).length c23] 24, own tInt S20 a22 c23 ((Bl.fold a).set), box B19 [Vi ((Bl.uni a b).size), Vi ((Bl.uni a b).hashes), .slice a16 ((Bl.uni a b).set).length c17] 24, own tInt S14 a16 c17 ((Bl.uni a b).set), box B13 [Vi ((Bl.add a s).size), Vi ((Bl.add a s).hashes), .slice a10 ((Bl.add a s).set).length c11] 24, own tInt S8 a10 c11 ((Bl.add a s).set), own tInt S3 a5 c6 (Bl.bits a s), box B2 [Vi b.size, Vi b.hashes, .slice ab_0 b.set.length cb_0] 24, box B1 [Vi a.size, Vi a.hashes, .slice aa_0 a.set.length ca_0] 24, base w0]) (fun w hw => HeapIs.toLoose (i := 1) (T := tInt) rfl hw) ?_
       refine q_join hK33 (2, (Bl.check b), (Bl.check a), ([] : List Int), none, 0, (fun _ => False), false, (⟨0, 0, ([] : List Int)⟩ : DFilter), none, 0, (fun _ => False), (⟨a.size, a.hashes, (Bl.both a.set b.set a.size)⟩ : DFilter), a47_10, c47_10, S47_10, (⟨(a.size.tdiv 2), a.hashes, (Bl.half a)⟩ : DFilter), a51_6, c51_6, S51_6) ?_ (sr (sr (sr (sr (sr (sr (sr (sr (sr (sr (sr (sr (sr (sr (sr (sr (sr (sr (sr (sr (Sub.nil _))))))))))))))))))))) (pk [1, 2, 0, 6, 7, 8, 9, 10, 11, 12, 13, 14, 15, 16, 17, 18, 19])
       clear hK33
       refine ⟨?_, ?_, ?_⟩
       ·first | exact Bl.sA0 s hck | exact Bl.sA1 hck (by omega) | exact Bl.sA2 hck (by omega)
       ·first | exact Bl.sB0 b hck | exact Bl.sB1 hck (by omega) | exact Bl.sB2 hck (by omega) (by omega) | exact Bl.sB3 hck (by omega) (by omega)
       ·first | exact Bl.sC0 hck | exact Bl.sC1 hck (by omega) | exact Bl.sC2 hck (by omega)
     ·simp only [beq_eq_false_iff_ne, ne_eq] at hc46
      refine c_skip (q_then (c_seq (c_region ?_)))
      refine o_p (p_fieldAddr (j' := 0) rfl fo24_0 rfl) ?_
      refine o_p (p_load (i := 15) (v := Vi a.size) rfl rfl sh3 rfl) ?_
      refine o_p (p_rem (p := a.size) (q := 2) rfl rfl (by decide)) ?_
      refine o_p (p_eq rfl rfl) ?_
      refine o_nil (q_then ?_)
      refine c_cond rfl (fun hc53 => ?_) (fun hc53 => ?_)
      ·simp only [beq_iff_eq] at hc53
       refine c_region ?_
       refine o_as rfl rfl ?_
       refine o_nil ?_
       refine q_heap (H' := [loose tInt (False) (fun _ => False) none 0 ([] : List Int), loose tInt (False) (fun _ => False) none 0 ([] : List Int), loose tInt (False) (fun _ => False) none 0 ([] : List Int), loose tInt (False) (fun _ => False) none 0 ([] : List Int), loose tInt (False) (fun _ => False) none 0 ([] : List Int), box B28 [Vi 0, Vi 0, .slice none 0 0] 24, box B27 [Vi 0, Vi 0, .slice none 0 0] 24, box B26 [Vi 0, Vi 0, .slice none 0 0] 24, box B25 [Vi ((Bl.fold a).size), Vi ((Bl.fold a).hashes), .slice a22 ((Bl.fold a).set).length c23] 24, own tInt S20 a22 c23 ((Bl.fold a).set), box B19 [Vi ((Bl.uni a b).size), Vi ((Bl.uni a b).hashes), .slice a16 ((Bl.uni a b).set).length c17] 24, own tInt S14 a16 c17 ((Bl.uni a b).set), box B13 [Vi ((Bl.add a s).size), Vi ((Bl.add a s).hashes), .slice a10 ((Bl.add a s).set).length c11] 24, own tInt S8 a10 c11 ((Bl.add a s).set), own tInt S3 a5 c6 (Bl.bits a s), box B2 [Vi b.size, Vi b.hashes, .slice ab_0 b.set.length cb_0] 24, box B1 [Vi a.size, Vi a.hashes, .slice aa_0 a.set.length ca_0] 24, base w0]) (fun w hw => HeapIs.looseNil tInt hw) ?_
       refine q_heap (H' := [loose tInt (False) (fun _ => False) none 0 ([] : List Int), loose tInt (False) (fun _ => False) none 0 ([] : List Int), loose tInt (False) (fun _ => False) none 0 ([] : List Int), loose tInt (False) (fun _ => False) none 0 ([] : List Int), loose tInt (False) (fun _ => False) none 0 ([] : List Int), loose tInt (False) (fun _ => False) none 0 ([] : List Int), box B28 [Vi 0, Vi 0, .slice none 0 0] 24, box B27 [Vi 0, Vi 0, .slice none 0 0] 24, box B26 [Vi 0, Vi 0, .slice none ([] : List Int).length 0] 24, box B25 [Vi ((Bl.fold a).size), Vi ((Bl.fold a).hashes), .slice a22 ((Bl.fold a).set).length c23] 24, own tInt S20 a22 c23 ((Bl.fold a).set), box B19 [Vi ((Bl.uni a b).size), Vi ((Bl.uni a b).hashes), .slice a16 ((Bl.uni a b).set).length c17] 24, own tInt S14 a16 c17 ((Bl.uni a b).set), box B13 [Vi ((Bl.add a s).size), Vi ((Bl.add a s).hashes), .slice a10 ((Bl.add a s).set).length c11] 24, own tInt S8 a10 c11 ((Bl.add a s).set), own tInt S3 a5 c6 (Bl.bits a s), box B2 [Vi b.size, Vi b.hashes, .slice ab_0 b.set.length cb_0] 24, box B1 [Vi a.size, Vi a.hashes, .slice aa_0 a.set.length ca_0] 24, base w0]) (fun w hw => HeapIs.looseNil tInt hw) ?_
       refine q_heap (H' := [loose tInt (False) (fun _ => False) none 0 ([] : List Int), loose tInt (False) (fun _ => False) none 0 ([] : List Int), loose tInt (False) (fun _ => False) none 0 ([] : List Int), loose tInt (False) (fun _ => False) none 0 ([] : List Int), loose tInt (False) (fun _ => False) none 0 ([] : List Int), loose tInt (False) (fun _ => False) none 0 ([] : List Int), loose tInt (False) (fun _ => False) none 0 ([] : List Int), box B28 [Vi 0, Vi 0, .slice none 0 0] 24, box B27 [Vi 0, Vi 0, .slice none ([] : List Int).length 0] 24, box B26 [Vi 0, Vi 0, .slice none ([] : List Int).length 0] 24, box B25 [Vi ((Bl.fold a).size), Vi ((Bl.fold a).hashes), .slice a22 ((Bl.fold a).set).length c23] 24, own tInt S20 a22 c23 ((Bl.fold a).set), box B19 [Vi ((Bl.uni a b).size), Vi ((Bl.uni a b).hashes), .slice a16 ((Bl.uni a b).set).length c17] 24, own tInt S14 a16 c17 ((Bl.uni a b).set), box B13 [Vi ((Bl.add a s).size), Vi ((Bl.add a s).hashes), .slice a10 ((Bl.add a s).set).length c11] 24, own tInt S8 a10 c11 ((Bl.add a s).set), own tInt S3 a5 c6 (Bl.bits a s), box B2 [Vi b.size, Vi b.hashes, .slice ab_0 b.set.length cb_0] 24, box B1 [Vi a.size, Vi a.hashes, .slice aa_0 a.set.length ca_0] 24, base w0]) (fun w hw => HeapIs.looseNil tInt hw) ?_
       refine q_join hK33 (2, (Bl.check b), 4, ([] : List Int), none, 0, (fun _ => False), false, (⟨0, 0, ([] : List Int)⟩ : DFilter), none, 0, (fun _ => False), (⟨0, 0, ([] : List Int)⟩ : DFilter), none, 0, (fun _ => False), (⟨0, 0, ([] : List Int)⟩ : DFilter), none, 0, (fun _ => False)) ?_ (sr (sr (sr (sr (sr (sr (sr (sr (sr (sr (sr (sr (sr (sr (sr (sr (sr (sr (sr (sr (Sub.nil _))))))))))))))))))))) (pk [0, 1, 2, 6, 7, 8, 9, 10, 11, 12, 13, 14, 15, 16, 17, 18, 19])
       clear hK33
       refine ⟨?_, ?_, ?_⟩
       ·first | exact Bl.sA0 s hck | exact Bl.sA1 hck (by omega) | exact Bl.sA2 hck (by omega)
       ·first | exact Bl.sB0 b hck | exact Bl.sB1 hck (by omega) | exact Bl.sB2 hck (by omega) (by omega) | exact Bl.sB3 hck (by omega) (by omega)
       ·first | exact Bl.sC0 hck | exact Bl.sC1 hck (by omega) | exact Bl.sC2 hck (by omega)
      ·simp only [beq_eq_false_iff_ne, ne_eq] at hc53
       refine c_held hmix [loose tInt (False) (fun _ => False) none 0 ([] : List Int), loose tInt (False) (fun _ => False) none 0 ([] : List Int), loose tInt (False) (fun _ => False) none 0 ([] : List Int), loose tInt (False) (fun _ => False) none 0 ([] : List Int), box B27 [Vi 0, Vi 0, .slice none 0 0] 24, box B26 [Vi 0, Vi 0, .slice none 0 0] 24, box B25 [Vi ((Bl.fold a).size), Vi ((Bl.fold a).hashes), .slice a22 ((Bl.fold a).set).length c23] 24, own tInt S20 a22 c23 ((Bl.fold a).set), box B19 [Vi ((Bl.uni a b).size), Vi ((Bl.uni a b).hashes), .slice a16 ((Bl.uni a b).set).length c17] 24, own tInt S14 a16 c17 ((Bl.uni a b).set), box B13 [Vi ((Bl.add a s).size), Vi ((Bl.add a s).hashes), .slice a10 ((Bl.add a s).set).length c11] 24, own tInt S8 a10 c11 ((Bl.add a s).set), own tInt S3 a5 c6 (Bl.bits a s), box B2 [Vi b.size, Vi b.hashes, .slice ab_0 b.set.length cb_0] 24, box B1 [Vi a.size, Vi a.hashes, .slice aa_0 a.set.length ca_0] 24, base w0] rfl rfl ?_
       refine h_tk (i := 0) (ls := #[T1,F0,F0,F0,F0,F0,F0,F0,F0]) rfl (p_fieldAddr (j' := 0) rfl fo24_0 rfl) (dp (lj (lj (lj (lj (lz (lj (lj (lj (lj (lj (lj (lj (lj (lj (lj (lj (lj (ln))))))))))))))))))) ?_
       refine h_tk (i := 1) (ls := #[T1,T1,F0,F0,F0,F0,F0,F0,F0]) rfl (p_load (i := 14) (v := Vi a.size) rfl rfl sh3 rfl) (dp (lj (lj (lj (lj (lz (lj (lj (lj (lj (lj (lj (lj (lj (lj (lj (lj (lj (ln))))))))))))))))))) ?_
       refine h_tk (i := 2) (ls := #[T1,T1,T1,F0,F0,F0,F0,F0,F0]) rfl (p_quob (p := a.size) (q := 2) rfl rfl (by decide) (by omega)) (dp (lj (lj (lj (lj (lz (lj (lj (lj (lj (lj (lj (lj (lj (lj (lj (lj (lj (ln))))))))))))))))))) ?_
       refine h_tk (i := 3) (ls := #[T1,T1,T1,T1,F0,F0,F0,F0,F0]) rfl (p_fieldAddr (j' := 1) rfl fo24_1 rfl) (dp (lj (lj (lj (lj (lz (lj (lj (lj (lj (lj (lj (lj (lj (lj (lj (lj (lj (ln))))))))))))))))))) ?_
       refine h_tk (i := 4) (ls := #[T1,T1,T1,T1,T1,F0,F0,F0,F0]) rfl (p_load (i := 14) (v := Vi a.hashes) rfl rfl sh3 rfl) (dp (lj (lj (lj (lj (lz (lj (lj (lj (lj (lj (lj (lj (lj (lj (lj (lj (lj (ln))))))))))))))))))) ?_
       refine h_tk (i := 5) (ls := #[T1,T1,T1,T1,T1,T1,F0,F0,F0]) rfl (p_load_agg (i := 14) (vs := [Vi a.size, Vi a.hashes, .slice aa_0 a.set.length ca_0]) rfl rfl sh24 rfl rfl) (dp (lj (lj (lj (lj (lz (lj (lj (lj (lj (lj (lj (lj (lj (lj (lj (lj (lj (ln))))))))))))))))))) ?_
       refine h_one (i := 6) (ls := #[T1,T1,T1,T1,T1,T1,T1,F0,F0]) (by kernel_rfl) rfl rfl ?_
       refine o_callM rfl (bloomHalf_ok a aa_0 ca_0 (by first | assumption | omega)) hf19 (fun w hw => (rd_base (i := 16) rfl ha_0) w hw) rfl (fun _ _ _ _ ha hA => SlO.agree ha hA) ?_
       rintro ⟨a57_6, c57_6⟩ S57_6
       refine o_know (fun w hw => own_len (i := 0) (T := tInt) hw rfl) (fun hlr57_6 => ?_)
       refine o_nil ?_
       refine h_next (dp (lz (lj (lj (lj (lj (lz (lj (lj (lj (lj (lj (lj (lj (lj (lj (lj (lj (lj (ln)))))))))))))))))))) ?_
       refine h_tk (i := 7) (ls := #[T1,T1,T1,T1,T1,T1,T1,T1,F0]) rfl (p_build (cells := [Vi (a.size.tdiv 2), Vi a.hashes, .slice a57_6 (Bl.half a).length c57_6]) fp24 ze24 rfl rfl) (dp (lz (lj (lj (lj (lj (lz (lj (lj (lj (lj (lj (lj (lj (lj (lj (lj (lj (lj (ln)))))))))))))))))))) ?_
       refine h_one (i := 8) (ls := #[T1,T1,T1,T1,T1,T1,T1,T1,T1]) (by kernel_rfl) rfl rfl ?_
       refine o_storeN (i := 5) (vs := [Vi (a.size.tdiv 2), Vi a.hashes, .slice a57_6 (Bl.half a).length c57_6]) (cs' := [Vi (a.size.tdiv 2), Vi a.hashes, .slice a57_6 (Bl.half a).length c57_6]) rfl rfl rfl sz24 rfl rfl rfl rfl ?_
       refine o_nil ?_
       refine h_next (dp (lz (lj (lj (lj (lj (lz (lj (lj (lj (lj (lj (lj (lj (lj (lj (lj (lj (lj (ln)))))))))))))))))))) ?_
       refine h_done (by kernel_rfl) ?_
       refine q_heap (H' := [loose tInt (False) (fun _ => False) none 0 ([] : List Int), own tInt S57_6 a57_6 c57_6 (Bl.half a), loose tInt (False) (fun _ => False) none 0 ([] : List Int), loose tInt (False) (fun _ => False) none 0 ([] : List Int), loose tInt (False) (fun _ => False) none 0 ([] : List Int), loose tInt (False) (fun _ => False) none 0 ([] : List Int), box B28 [Vi (a.size.tdiv 2), Vi a.hashes, .slice a57_6 (Bl.half a).length c57_6] 24, box B27 [Vi 0, Vi 0, .slice none 0 0] 24, box B26 [Vi 0, Vi 0, .slice none 0 0] 24, box B25 [Vi ((Bl.fold a).size), Vi ((Bl.fold a).hashes), .slice a22 ((Bl.fold a).set).length c23] 24, own tInt S20 a22 c23 ((Bl.fold a).set), box B19 [Vi ((Bl.uni a b).size), Vi ((Bl.uni a b).hashes), .slice a16 ((Bl.uni a b).set).length c17] 24, own tInt S14 a16 c17 ((Bl.uni a b).set), box B13 [Vi ((Bl.add a s).size), Vi ((Bl.add a s).hashes), .slice a10 ((Bl.add a s).set).length c11] 24, own tInt S8 a10 c11 ((Bl.add a s).set), own tInt S3 a5 c6 (Bl.bits a s), box B2 [Vi b.size, Vi b.hashes, .slice ab_0 b.set.length cb_0] 24, box B1 [Vi a.size, Vi a.hashes, .slice aa_0 a.set.length ca_0] 24, base w0]) (fun w hw => HeapIs.looseNil tInt hw) ?_
       refine q_heap (H' := [loose tInt (False) (fun _ => False) none 0 ([] : List Int), loose tInt (False) (fun _ => False) none 0 ([] : List Int), own tInt S57_6 a57_6 c57_6 (Bl.half a), loose tInt (False) (fun _ => False) none 0 ([] : List Int), loose tInt (False) (fun _ => False) none 0 ([] : List Int), loose tInt (False) (fun _ => False) none 0 ([] : List Int), loose tInt (False) (fun _ => False) none 0 ([] : List Int), box B28 [Vi (a.size.tdiv 2), Vi a.hashes, .slice a57_6 (Bl.half a).length c57_6] 24, box B27 [Vi 0, Vi 0, .slice none 0 0] 24, box B26 [Vi 0, Vi 0, .slice none ([] : List Int).length 0] 24, box B25 [Vi ((Bl.fold a).size), Vi ((Bl.fold a).hashes), .slice a22 ((Bl.fold a).set).length c23] 24, own tInt S20 a22 c23 ((Bl.fold a).set), box B19 [Vi ((Bl.uni a b).size), Vi ((Bl.uni a b).hashes), .slice a16 ((Bl.uni a b).set).length c17] 24, own tInt S14 a16 c17 ((Bl.uni a b).set), box B13 [Vi ((Bl.add a s).size), Vi ((Bl.add a s).hashes), .slice a10 ((Bl.add a s).set).length c11] 24, own tInt S8 a10 c11 ((Bl.add a s).set), own tInt S3 a5 c6 (Bl.bits a s), box B2 [Vi b.size, Vi b.hashes, .slice ab_0 b.set.length cb_0] 24, box B1 [Vi a.size, Vi a.hashes, .slice aa_0 a.set.length ca_0] 24, base w0]) (fun w hw => HeapIs.looseNil tInt hw) ?_
       refine q_heap (H' := [loose tInt (False) (fun _ => False) none 0 ([] : List Int), loose tInt (False) (fun _ => False) none 0 ([] : List Int), loose tInt (False) S57_6 a57_6 c57_6 (Bl.half a), loose tInt (False) (fun _ => False) none 0 ([] : List Int), loose tInt (False) (fun _ => False) none 0 ([] : List Int), loose tInt (False) (fun _ => False) none 0 ([] : List Int), loose tInt (False) (fun _ => False) none 0 ([] : List Int), box B28 [Vi (a.size.tdiv 2), Vi a.hashes, .slice a57_6 (Bl.half a).length c57_6] 24, box B27 [Vi 0, Vi 0, .slice none ([] : List Int).length 0] 24, box B26 [Vi 0, Vi 0, .slice none ([] : List Int).length 0] 24, box B25 [Vi ((Bl.fold a).size), Vi ((Bl.fold a).hashes), .slice a22 ((Bl.fold a).set).length c23] 24, own tInt S20 a22 c23 ((Bl.fold a).set), box B19 [Vi ((Bl.uni a b).size), Vi ((Bl.uni a b).hashes), .slice a16 ((Bl.uni a b).set).length c17] 24, own tInt S14 a16 c17 ((Bl.uni a b).set), box B13 [Vi ((Bl.add a s).size), Vi ((Bl.add a s).hashes), .slice a10 ((Bl.add a s).set).length c11] 24, own tInt S8 a10 c11 ((Bl.add a s).set), own tInt S3 a5 c6 (Bl.bits a s), box B2 [Vi b.size, Vi b.hashes, .slice ab_0 b.set.length cb_0] 24, box B1 [Vi a.size, Vi a.hashes, .slice aa_0 a.set.length ca_0] 24, base w0]) (fun w hw => HeapIs.toLoose (i := 2) (T := tInt) rfl hw) ?_
       refine q_join hK33 (2, (Bl.check b), (Bl.check a), ([] : List Int), none, 0, (fun _ => False), false, (⟨0, 0, ([] : List Int)⟩ : DFilter), none, 0, (fun _ => False), (⟨0, 0, ([] : List Int)⟩ : DFilter), none, 0, (fun _ => False), (⟨(a.size.tdiv 2), a.hashes, (Bl.half a)⟩ : DFilter), a57_6, c57_6, S57_6) ?_ (sr (sr (sr (sr (sr (sr (sr (sr (sr (sr (sr (sr (sr (sr (sr (sr (sr (sr (sr (sr (Sub.nil _))))))))))))))))))))) (pk [2, 0, 1, 6, 7, 8, 9, 10, 11, 12, 13, 14, 15, 16, 17, 18, 19])
       clear hK33
       refine ⟨?_, ?_, ?_⟩
       ·first | exact Bl.sA0 s hck | exact Bl.sA1 hck (by omega) | exact Bl.sA2 hck (by omega)
       ·first | exact Bl.sB0 b hck | exact Bl.sB1 hck (by omega) | exact Bl.sB2 hck (by omega) (by omega) | exact Bl.sB3 hck (by omega) (by omega)
       ·first | exact Bl.sC0 hck | exact Bl.sC1 hck (by omega) | exact Bl.sC2 hck (by omega)
   ·simp only [decide_eq_false_iff_not, Int.not_lt] at hc35
    refine c_seq (c_region ?_)
    refine o_p (p_load_agg (i := 15) (vs := [Vi a.size, Vi a.hashes, .slice aa_0 a.set.length ca_0]) rfl rfl sh24 rfl rfl) ?_
    refine o_mv rfl rfl ?_
    refine o_callM rfl (bloomPlaces_ok a aa_0 ca_0 s (by first | assumption | exact ⟨Bl.check_ok.1 (by assumption), by omega⟩ | exact ⟨hoa, by omega⟩)) hf16 (fun w hw => (rd_base (i := 16) rfl ha_0) w hw) rfl (fun _ _ _ _ ha hA => SlO.agree ha hA) ?_
    rintro ⟨a62, c63⟩ S60
    refine o_know (fun w hw => own_len (i := 0) (T := tInt) hw rfl) (fun hlr64 => ?_)
    refine o_as rfl rfl ?_
    refine o_nil (q_then (c_seq ?_))
    refine c_held hmix [own tInt S60 a62 c63 (Bl.places a s), loose tInt (False) (fun _ => False) none 0 ([] : List Int), loose tInt (False) (fun _ => False) none 0 ([] : List Int), loose tInt (False) (fun _ => False) none 0 ([] : List Int), loose tInt (False) (fun _ => False) none 0 ([] : List Int), box B28 [Vi 0, Vi 0, .slice none 0 0] 24, box B27 [Vi 0, Vi 0, .slice none 0 0] 24, box B25 [Vi ((Bl.fold a).size), Vi ((Bl.fold a).hashes), .slice a22 ((Bl.fold a).set).length c23] 24, own tInt S20 a22 c23 ((Bl.fold a).set), box B19 [Vi ((Bl.uni a b).size), Vi ((Bl.uni a b).hashes), .slice a16 ((Bl.uni a b).set).length c17] 24, own tInt S14 a16 c17 ((Bl.uni a b).set), box B13 [Vi ((Bl.add a s).size), Vi ((Bl.add a s).hashes), .slice a10 ((Bl.add a s).set).length c11] 24, own tInt S8 a10 c11 ((Bl.add a s).set), own tInt S3 a5 c6 (Bl.bits a s), box B2 [Vi b.size, Vi b.hashes, .slice ab_0 b.set.length cb_0] 24, box B1 [Vi a.size, Vi a.hashes, .slice aa_0 a.set.length ca_0] 24, base w0] rfl rfl ?_
    refine h_tk (i := 0) (ls := #[T1,F0,F0,F0,F0,F0,F0,F0,F0,F0,F0,F0]) rfl (p_fieldAddr (j' := 0) rfl fo24_0 rfl) (dp (lj (lj (lj (lj (lj (lj (lj (lz (lj (lj (lj (lj (lj (lj (lj (lj (lj (lj (ln)))))))))))))))))))) ?_
    refine h_tk (i := 1) (ls := #[T1,T1,F0,F0,F0,F0,F0,F0,F0,F0,F0,F0]) rfl (p_load (i := 15) (v := Vi a.size) rfl rfl sh3 rfl) (dp (lj (lj (lj (lj (lj (lj (lj (lz (lj (lj (lj (lj (lj (lj (lj (lj (lj (lj (ln)))))))))))))))))))) ?_
    refine h_tk (i := 2) (ls := #[T1,T1,T1,F0,F0,F0,F0,F0,F0,F0,F0,F0]) rfl (p_fieldAddr (j' := 1) rfl fo24_1 rfl) (dp (lj (lj (lj (lj (lj (lj (lj (lz (lj (lj (lj (lj (lj (lj (lj (lj (lj (lj (ln)))))))))))))))))))) ?_
    refine h_tk (i := 3) (ls := #[T1,T1,T1,T1,F0,F0,F0,F0,F0,F0,F0,F0]) rfl (p_load (i := 15) (v := Vi a.hashes) rfl rfl sh3 rfl) (dp (lj (lj (lj (lj (lj (lj (lj (lz (lj (lj (lj (lj (lj (lj (lj (lj (lj (lj (ln)))))))))))))))))))) ?_
    refine h_tk (i := 4) (ls := #[T1,T1,T1,T1,T1,F0,F0,F0,F0,F0,F0,F0]) rfl (p_fieldAddr (j' := 2) rfl fo24_2 rfl) (dp (lj (lj (lj (lj (lj (lj (lj (lz (lj (lj (lj (lj (lj (lj (lj (lj (lj (lj (ln)))))))))))))))))))) ?_
    refine h_tk (i := 5) (ls := #[T1,T1,T1,T1,T1,T1,F0,F0,F0,F0,F0,F0]) rfl (p_load (i := 15) (v := .slice aa_0 a.set.length ca_0) rfl rfl sh22 rfl) (dp (lj (lj (lj (lj (lj (lj (lj (lz (lj (lj (lj (lj (lj (lj (lj (lj (lj (lj (ln)))))))))))))))))))) ?_
    refine h_tk (i := 6) (ls := #[T1,T1,T1,T1,T1,T1,T1,F0,F0,F0,F0,F0]) rfl (p_move rfl) (dp (lj (lj (lj (lj (lj (lj (lj (lz (lj (lj (lj (lj (lj (lj (lj (lj (lj (lj (ln)))))))))))))))))))) ?_
    refine h_tk (i := 7) (ls := #[T1,T1,T1,T1,T1,T1,T1,T1,F0,F0,F0,F0]) rfl (p_fieldAddr (j' := 0) rfl fo24_0 rfl) (dp (lj (lj (lj (lj (lj (lj (lj (lz (lj (lj (lj (lj (lj (lj (lj (lj (lj (lj (ln)))))))))))))))))))) ?_
    refine h_tk (i := 8) (ls := #[T1,T1,T1,T1,T1,T1,T1,T1,T1,F0,F0,F0]) rfl (p_load (i := 15) (v := Vi a.size) rfl rfl sh3 rfl) (dp (lj (lj (lj (lj (lj (lj (lj (lz (lj (lj (lj (lj (lj (lj (lj (lj (lj (lj (ln)))))))))))))))))))) ?_
    refine h_one (i := 9) (ls := #[T1,T1,T1,T1,T1,T1,T1,T1,T1,T1,F0,F0]) (by kernel_rfl) rfl rfl ?_
    refine o_callM rfl (setBoth_ok a.set aa_0 ca_0 (Bl.places a s) a62 c63 a.size (by first | assumption | omega)) hf17 (fun w hw => ⟨(rd_base (i := 17) rfl ha_0) w hw, (rd_own (i := 0) rfl) w hw⟩) rfl (fun _ _ _ _ ha hA => SlO.agree ha hA) ?_
    rintro ⟨a65_9, c65_9⟩ S65_9
    refine o_know (fun w hw => own_len (i := 0) (T := tInt) hw rfl) (fun hlr65_9 => ?_)
    refine o_nil ?_
    refine h_next (dp (lz (lj (lj (lj (lj (lj (lj (lj (lz (lj (lj (lj (lj (lj (lj (lj (lj (lj (lj (ln))))))))))))))))))))) ?_
    refine h_tk (i := 10) (ls := #[T1,T1,T1,T1,T1,T1,T1,T1,T1,T1,T1,F0]) rfl (p_build (cells := [Vi a.size, Vi a.hashes, .slice a65_9 (Bl.both a.set (Bl.places a s) a.size).length c65_9]) fp24 ze24 rfl rfl) (dp (lz (lj (lj (lj (lj (lj (lj (lj (lz (lj (lj (lj (lj (lj (lj (lj (lj (lj (lj (ln))))))))))))))))))))) ?_
    refine h_one (i := 11) (ls := #[T1,T1,T1,T1,T1,T1,T1,T1,T1,T1,T1,T1]) (by kernel_rfl) rfl rfl ?_
    refine o_storeN (i := 8) (vs := [Vi a.size, Vi a.hashes, .slice a65_9 (Bl.both a.set (Bl.places a s) a.size).length c65_9]) (cs' := [Vi a.size, Vi a.hashes, .slice a65_9 (Bl.both a.set (Bl.places a s) a.size).length c65_9]) rfl rfl rfl sz24 rfl rfl rfl rfl ?_
    refine o_nil ?_
    refine h_next (dp (lz (lj (lj (lj (lj (lj (lj (lj (lz (lj (lj (lj (lj (lj (lj (lj (lj (lj (lj (ln))))))))))))))))))))) ?_
    refine h_done (by kernel_rfl) ?_
    refine q_then (c_region ?_)
    refine o_p (p_fieldAddr (j' := 2) rfl fo24_2 rfl) ?_
    refine o_p (p_load (i := 8) (v := .slice a65_9 (Bl.both a.set (Bl.places a s) a.size).length c65_9) rfl rfl sh22 rfl) ?_
    refine o_p (p_fieldAddr (j' := 2) rfl fo24_2 rfl) ?_
    refine o_p (p_load (i := 17) (v := .slice aa_0 a.set.length ca_0) rfl rfl sh22 rfl) ?_
    refine o_call0 (v := .bool (Ref.sameInts (Bl.both a.set (Bl.places a s) a.size) a.set)) rfl (sameInts_ok (Bl.both a.set (Bl.places a s) a.size) a65_9 c65_9 a.set aa_0 ca_0) hf18 (fun w hw => ⟨(rd_own (i := 0) rfl) w hw, (rd_base (i := 18) rfl ha_0) w hw⟩) rfl ?_
    refine o_as rfl rfl ?_
    refine o_nil (q_then (c_seq (c_seq (c_region ?_))))
    refine o_p (p_load_agg (i := 16) (vs := [Vi b.size, Vi b.hashes, .slice ab_0 b.set.length cb_0]) rfl rfl sh24 rfl rfl) ?_
    refine o_call0 (v := Vi (Bl.check b)) rfl (bloomCheck_ok b ab_0 cb_0) hf15 (fun w hw => (rd_base (i := 18) rfl hb_0) w hw) rfl ?_
    refine o_as rfl rfl ?_
    refine o_nil (q_then (c_seq (c_region ?_)))
    refine o_mv rfl rfl ?_
    refine o_p (p_eq rfl rfl) ?_
    refine o_mv rfl rfl ?_
    refine o_and (p := 101) 13 ((a.size != b.size) || (a.hashes != b.hashes)) ?_ ?_ ?_
    ·intro hb66 hk
     simp only [beq_iff_eq] at hb66
     refine o_unguard 88 rfl rfl ?_
     refine o_p (p_fieldAddr (j' := 0) rfl fo24_0 rfl) ?_
     refine o_unguard 88 rfl rfl ?_
     refine o_p (p_load (i := 17) (v := Vi a.size) rfl rfl sh3 rfl) ?_
     refine o_unguard 88 rfl rfl ?_
     refine o_p (p_fieldAddr (j' := 0) rfl fo24_0 rfl) ?_
     refine o_unguard 88 rfl rfl ?_
     refine o_p (p_load (i := 16) (v := Vi b.size) rfl rfl sh3 rfl) ?_
     refine o_unguard 88 rfl rfl ?_
     refine o_p (p_ne rfl rfl) ?_
     refine o_unguard 88 rfl rfl ?_
     refine o_mv rfl rfl ?_
     refine o_or (p := 100) 6 (a.hashes != b.hashes) ?_ ?_ ?_
     ·intro hb67 hk
      simp only [bne_eq_false_iff_eq] at hb67
      refine o_unguard 94 rfl rfl ?_
      refine o_p (p_fieldAddr (j' := 1) rfl fo24_1 rfl) ?_
      refine o_unguard 94 rfl rfl ?_
      refine o_p (p_load (i := 17) (v := Vi a.hashes) rfl rfl sh3 rfl) ?_
      refine o_unguard 94 rfl rfl ?_
      refine o_p (p_fieldAddr (j' := 1) rfl fo24_1 rfl) ?_
      refine o_unguard 94 rfl rfl ?_
      refine o_p (p_load (i := 16) (v := Vi b.hashes) rfl rfl sh3 rfl) ?_
      refine o_unguard 94 rfl rfl ?_
      refine o_p (p_ne rfl rfl) ?_
      refine o_unguard 88 rfl rfl ?_
      refine o_pf rfl rfl rfl ?_
      exact o_sub (sr (Sub.skip rfl (Sub.skip rfl (Sub.skip rfl (Sub.skip rfl (Sub.skip rfl (Sub.skip rfl (Sub.skip rfl (Sub.refl _))))))))) hk
     ·intro hb67 hk
      refine o_guard_no rfl 94 rfl rfl rfl rfl rfl ?_
      refine o_guard_no rfl 94 rfl rfl rfl rfl rfl ?_
      refine o_guard_no rfl 94 rfl rfl rfl rfl rfl ?_
      refine o_guard_no rfl 94 rfl rfl rfl rfl rfl ?_
      refine o_guard_no rfl 94 rfl rfl rfl rfl rfl ?_
      refine o_unguard 88 rfl rfl ?_
      refine o_pt rfl rfl rfl ?_
      exact o_sub (sr (Sub.skip rfl (Sub.skip rfl (Sub.skip rfl (Sub.skip rfl (Sub.skip rfl (Sub.skip rfl (Sub.skip rfl (Sub.refl _))))))))) hk
     refine o_pt rfl rfl rfl ?_
     exact o_sub (sr (Sub.skip rfl (Sub.skip rfl (Sub.skip rfl (Sub.skip rfl (Sub.skip rfl (Sub.skip rfl (Sub.skip rfl (Sub.skip rfl (Sub.refl _)))))))))) hk
    ·intro hb66 hk
     refine o_guard_no rfl 88 rfl rfl rfl rfl rfl ?_
     refine o_guard_no rfl 88 rfl rfl rfl rfl rfl ?_
     refine o_guard_no rfl 88 rfl rfl rfl rfl rfl ?_
     refine o_guard_no rfl 88 rfl rfl rfl rfl rfl ?_
     refine o_guard_no rfl 88 rfl rfl rfl rfl rfl ?_
     refine o_guard_no rfl 88 rfl rfl rfl rfl rfl ?_
     refine o_guard_no rfl 94 rfl rfl rfl rfl rfl ?_
     refine o_guard_no rfl 94 rfl rfl rfl rfl rfl ?_
     refine o_guard_no rfl 94 rfl rfl rfl rfl rfl ?_
     refine o_guard_no rfl 94 rfl rfl rfl rfl rfl ?_
     refine o_guard_no rfl 94 rfl rfl rfl rfl rfl ?_
     refine o_guard_no rfl 88 rfl rfl rfl rfl rfl ?_
     refine o_pf rfl rfl rfl ?_
     exact o_sub (sr (Sub.skip rfl (Sub.skip rfl (Sub.skip rfl (Sub.skip rfl (Sub.skip rfl (Sub.skip rfl (Sub.skip rfl (Sub.skip rfl (Sub.skip rfl (Sub.skip rfl (Sub.skip rfl (Sub.skip rfl (Sub.skip rfl (Sub.skip rfl (Sub.refl _)))))))))))))))) hk
    refine o_nil (q_then ?_)
    refine c_cond rfl (fun hc68 => ?_) (fun hc68 => ?_)
    ·simp only [Bool.and_eq_true, beq_iff_eq, Bool.or_eq_true, bne_iff_ne, ne_eq] at hc68
     refine c_region ?_
     refine o_as rfl rfl ?_
     refine o_nil (q_then (c_seq (c_region ?_)))
     refine o_p (p_fieldAddr (j' := 0) rfl fo24_0 rfl) ?_
     refine o_p (p_load (i := 17) (v := Vi a.size) rfl rfl sh3 rfl) ?_
     refine o_p (p_rem (p := a.size) (q := 2) rfl rfl (by decide)) ?_
     refine o_p (p_eq rfl rfl) ?_
     refine o_nil (q_then ?_)
     refine c_cond rfl (fun hc69 => ?_) (fun hc69 => ?_)
     ·simp only [beq_iff_eq] at hc69
      refine c_region ?_
      refine o_as rfl rfl ?_
      refine o_nil ?_
      refine q_heap (H' := [own tInt S65_9 a65_9 c65_9 (Bl.both a.set (Bl.places a s) a.size), loose tInt (False) S60 a62 c63 (Bl.places a s), loose tInt (False) (fun _ => False) none 0 ([] : List Int), loose tInt (False) (fun _ => False) none 0 ([] : List Int), loose tInt (False) (fun _ => False) none 0 ([] : List Int), loose tInt (False) (fun _ => False) none 0 ([] : List Int), box B28 [Vi 0, Vi 0, .slice none 0 0] 24, box B27 [Vi 0, Vi 0, .slice none 0 0] 24, box B26 [Vi a.size, Vi a.hashes, .slice a65_9 (Bl.both a.set (Bl.places a s) a.size).length c65_9] 24, box B25 [Vi ((Bl.fold a).size), Vi ((Bl.fold a).hashes), .slice a22 ((Bl.fold a).set).length c23] 24, own tInt S20 a22 c23 ((Bl.fold a).set), box B19 [Vi ((Bl.uni a b).size), Vi ((Bl.uni a b).hashes), .slice a16 ((Bl.uni a b).set).length c17] 24, own tInt S14 a16 c17 ((Bl.uni a b).set), box B13 [Vi ((Bl.add a s).size), Vi ((Bl.add a s).hashes), .slice a10 ((Bl.add a s).set).length c11] 24, own tInt S8 a10 c11 ((Bl.add a s).set), own tInt S3 a5 c6 (Bl.bits a s), box B2 [Vi b.size, Vi b.hashes, .slice ab_0 b.set.length cb_0] 24, box B1 [Vi a.size, Vi a.hashes, .slice aa_0 a.set.length ca_0] 24, base w0]) (fun w hw => HeapIs.toLoose (i := 1) (T := tInt) rfl hw) ?_
      refine q_heap (H' := [loose tInt (False) S65_9 a65_9 c65_9 (Bl.both a.set (Bl.places a s) a.size), loose tInt (False) S60 a62 c63 (Bl.places a s), loose tInt (False) (fun _ => False) none 0 ([] : List Int), loose tInt (False) (fun _ => False) none 0 ([] : List Int), loose tInt (False) (fun _ => False) none 0 ([] : List Int), loose tInt (False) (fun _ => False) none 0 ([] : List Int), box B28 [Vi 0, Vi 0, .slice none 0 0] 24, box B27 [Vi 0, Vi 0, .slice none 0 0] 24, box B26 [Vi a.size, Vi a.hashes, .slice a65_9 (Bl.both a.set (Bl.places a s) a.size).length c65_9] 24, box B25 [Vi ((Bl.fold a).size), Vi ((Bl.fold a).hashes), .slice a22 ((Bl.fold a).set).length c23] 24, own tInt S20 a22 c23 ((Bl.fold a).set), box B19 [Vi ((Bl.uni a b).size), Vi ((Bl.uni a b).hashes), .slice a16 ((Bl.uni a b).set).length c17] 24, own tInt S14 a16 c17 ((Bl.uni a b).set), box B13 [Vi ((Bl.add a s).size), Vi ((Bl.add a s).hashes), .slice a10 ((Bl.add a s).set).length c11] 24, own tInt S8 a10 c11 ((Bl.add a s).set), own tInt S3 a5 c6 (Bl.bits a s), box B2 [Vi b.size, Vi b.hashes, .slice ab_0 b.set.length cb_0] 24, box B1 [Vi a.size, Vi a.hashes, .slice aa_0 a.set.length ca_0] 24, base w0]) (fun w hw => HeapIs.toLoose (i := 0) (T := tInt) rfl hw) ?_
      refine q_heap (H' := [loose tInt (False) (fun _ => False) none 0 ([] : List Int), loose tInt (False) S65_9 a65_9 c65_9 (Bl.both a.set (Bl.places a s) a.size), loose tInt (False) S60 a62 c63 (Bl.places a s), loose tInt (False) (fun _ => False) none 0 ([] : List Int), loose tInt (False) (fun _ => False) none 0 ([] : List Int), loose tInt (False) (fun _ => False) none 0 ([] : List Int), loose tInt (False) (fun _ => False) none 0 ([] : List Int), box B28 [Vi 0, Vi 0, .slice none 0 0] 24, box B27 [Vi 0, Vi 0, .slice none 0 0] 24, box B26 [Vi a.size, Vi a.hashes, .slice a65_9 (Bl.both a.set (Bl.places a s) a.size).length c65_9] 24, box B25 [Vi ((Bl.fold a).size), Vi ((Bl.fold a).hashes), .slice a22 ((Bl.fold a).set).length c23] 24, own tInt S20 a22 c23 ((Bl.fold a).set), box B19 [Vi ((Bl.uni a b).size), Vi ((Bl.uni a b).hashes), .slice a16 ((Bl.uni a b).set).length c17] 24, own tInt S14 a16 c17 ((Bl.uni a b).set), box B13 [Vi ((Bl.add a s).size), Vi ((Bl.add a s).hashes), .slice a10 ((Bl.add a s).set).length c11] 24, own tInt S8 a10 c11 ((Bl.add a s).set), own tInt S3 a5 c6 (Bl.bits a s), box B2 [Vi b.size, Vi b.hashes, .slice ab_0 b.set.length cb_0] 24, box B1 [Vi a.size, Vi a.hashes, .slice aa_0 a.set.length ca_0] 24, base w0]) (fun w hw => HeapIs.looseNil tInt hw) ?_
      refine q_heap (H' := [loose tInt (False) (fun _ => False) none 0 ([] : List Int), loose tInt (False) (fun _ => False) none 0 ([] : List Int), loose tInt (False) S65_9 a65_9 c65_9 (Bl.both a.set (Bl.places a s) a.size), loose tInt (False) S60 a62 c63 (Bl.places a s), loose tInt (False) (fun _ => False) none 0 ([] : List Int), loose tInt (False) (fun _ => False) none 0 ([] : List Int), loose tInt (False) (fun _ => False) none 0 ([] : List Int), loose tInt (False) (fun _ => False) none 0 ([] : List Int), box B28 [Vi 0, Vi 0, .slice none 0 0] 24, box B27 [Vi 0, Vi 0, .slice none ([] : List Int).length 0] 24, box B26 [Vi a.size, Vi a.hashes, .slice a65_9 (Bl.both a.set (Bl.places a s) a.size).length c65_9] 24, box B25 [Vi ((Bl.fold a).size), Vi ((Bl.fold a).hashes), .slice a22 ((Bl.fold a).set).length c23] 24, own tInt S20 a22 c23 ((Bl.fold a).set), box B19 [Vi ((Bl.uni a b).size), Vi ((Bl.uni a b).hashes), .slice a16 ((Bl.uni a b).set).length c17] 24, own tInt S14 a16 c17 ((Bl.uni a b).set), box B13 [Vi ((Bl.add a s).size), Vi ((Bl.add a s).hashes), .slice a10 ((Bl.add a s).set).length c11] 24, own tInt S8 a10 c11 ((Bl.add a s).set), own tInt S3 a5 c6 (Bl.bits a s), box B2 [Vi b.size, Vi b.hashes, .slice ab_0 b.set.length cb_0] 24, box B1 [Vi a.size, Vi a.hashes, .slice aa_0 a.set.length ca_0] 24, base w0]) (fun w hw => HeapIs.looseNil tInt hw) ?_
      refine q_join hK33 ((Bl.check a), 7, 4, (Bl.places a s), a62, c63, S60, (Ref.sameInts (Bl.both a.set (Bl.places a s) a.size) a.set), (⟨a.size, a.hashes, (Bl.both a.set (Bl.places a s) a.size)⟩ : DFilter), a65_9, c65_9, S65_9, (⟨0, 0, ([] : List Int)⟩ : DFilter), none, 0, (fun _ => False), (⟨0, 0, ([] : List Int)⟩ : DFilter), none, 0, (fun _ => False)) ?_ (sr (sr (sr (sr (sr (sr (sr (sr (sr (sr (sr (sr (sr (sr (sr (sr (sr (sr (sr (sr (Sub.nil _))))))))))))))))))))) (pk [0, 1, 2, 3, 8, 9, 10, 11, 12, 13, 14, 15, 16, 17, 18, 19, 20])
      clear hK33
      refine ⟨?_, ?_, ?_⟩
      ·first | exact Bl.sA0 s hck | exact Bl.sA1 hck (by omega) | exact Bl.sA2 hck (by omega)
      ·first | exact Bl.sB0 b hck | exact Bl.sB1 hck (by omega) | exact Bl.sB2 hck (by omega) (by omega) | exact Bl.sB3 hck (by omega) (by omega)
      ·first | exact Bl.sC0 hck | exact Bl.sC1 hck (by omega) | exact Bl.sC2 hck (by omega)
     ·simp only [beq_eq_false_iff_ne, ne_eq] at hc69
      refine c_held hmix [own tInt S65_9 a65_9 c65_9 (Bl.both a.set (Bl.places a s) a.size), own tInt S60 a62 c63 (Bl.places a s), loose tInt (False) (fun _ => False) none 0 ([] : List Int), loose tInt (False) (fun _ => False) none 0 ([] : List Int), loose tInt (False) (fun _ => False) none 0 ([] : List Int), loose tInt (False) (fun _ => False) none 0 ([] : List Int), box B27 [Vi 0, Vi 0, .slice none 0 0] 24, box B26 [Vi a.size, Vi a.hashes, .slice a65_9 (Bl.both a.set (Bl.places a s) a.size).length c65_9] 24, box B25 [Vi ((Bl.fold a).size), Vi ((Bl.fold a).hashes), .slice a22 ((Bl.fold a).set).length c23] 24, own tInt S20 a22 c23 ((Bl.fold a).set), box B19 [Vi ((Bl.uni a b).size), Vi ((Bl.uni a b).hashes), .slice a16 ((Bl.uni a b).set).length c17] 24, own tInt S14 a16 c17 ((Bl.uni a b).set), box B13 [Vi ((Bl.add a s).size), Vi ((Bl.add a s).hashes), .slice a10 ((Bl.add a s).set).length c11] 24, own tInt S8 a10 c11 ((Bl.add a s).set), own tInt S3 a5 c6 (Bl.bits a s), box B2 [Vi b.size, Vi b.hashes, .slice ab_0 b.set.length cb_0] 24, box B1 [Vi a.size, Vi a.hashes, .slice aa_0 a.set.length ca_0] 24, base w0] rfl rfl ?_
      refine h_tk (i := 0) (ls := #[T1,F0,F0,F0,F0,F0,F0,F0,F0]) rfl (p_fieldAddr (j' := 0) rfl fo24_0 rfl) (dp (lj (lj (lj (lj (lj (lj (lz (lj (lj (lj (lj (lj (lj (lj (lj (lj (lj (lj (lj (ln))))))))))))))))))))) ?_
      refine h_tk (i := 1) (ls := #[T1,T1,F0,F0,F0,F0,F0,F0,F0]) rfl (p_load (i := 16) (v := Vi a.size) rfl rfl sh3 rfl) (dp (lj (lj (lj (lj (lj (lj (lz (lj (lj (lj (lj (lj (lj (lj (lj (lj (lj (lj (lj (ln))))))))))))))))))))) ?_
      refine h_tk (i := 2) (ls := #[T1,T1,T1,F0,F0,F0,F0,F0,F0]) rfl (p_quob (p := a.size) (q := 2) rfl rfl (by decide) (by omega)) (dp (lj (lj (lj (lj (lj (lj (lz (lj (lj (lj (lj (lj (lj (lj (lj (lj (lj (lj (lj (ln))))))))))))))))))))) ?_
      refine h_tk (i := 3) (ls := #[T1,T1,T1,T1,F0,F0,F0,F0,F0]) rfl (p_fieldAddr (j' := 1) rfl fo24_1 rfl) (dp (lj (lj (lj (lj (lj (lj (lz (lj (lj (lj (lj (lj (lj (lj (lj (lj (lj (lj (lj (ln))))))))))))))))))))) ?_
      refine h_tk (i := 4) (ls := #[T1,T1,T1,T1,T1,F0,F0,F0,F0]) rfl (p_load (i := 16) (v := Vi a.hashes) rfl rfl sh3 rfl) (dp (lj (lj (lj (lj (lj (lj (lz (lj (lj (lj (lj (lj (lj (lj (lj (lj (lj (lj (lj (ln))))))))))))))))))))) ?_
      refine h_tk (i := 5) (ls := #[T1,T1,T1,T1,T1,T1,F0,F0,F0]) rfl (p_load_agg (i := 16) (vs := [Vi a.size, Vi a.hashes, .slice aa_0 a.set.length ca_0]) rfl rfl sh24 rfl rfl) (dp (lj (lj (lj (lj (lj (lj (lz (lj (lj (lj (lj (lj (lj (lj (lj (lj (lj (lj (lj (ln))))))))))))))))))))) ?_
      refine h_one (i := 6) (ls := #[T1,T1,T1,T1,T1,T1,T1,F0,F0]) (by kernel_rfl) rfl rfl ?_
      refine o_callM rfl (bloomHalf_ok a aa_0 ca_0 (by first | assumption | omega)) hf19 (fun w hw => (rd_base (i := 18) rfl ha_0) w hw) rfl (fun _ _ _ _ ha hA => SlO.agree ha hA) ?_
      rintro ⟨a72_6, c72_6⟩ S72_6
      refine o_know (fun w hw => own_len (i := 0) (T := tInt) hw rfl) (fun hlr72_6 => ?_)
      refine o_nil ?_
      refine h_next (dp (lz (lj (lj (lj (lj (lj (lj (lz (lj (lj (lj (lj (lj (lj (lj (lj (lj (lj (lj (lj (ln)))))))))))))))))))))) ?_
      refine h_tk (i := 7) (ls := #[T1,T1,T1,T1,T1,T1,T1,T1,F0]) rfl (p_build (cells := [Vi (a.size.tdiv 2), Vi a.hashes, .slice a72_6 (Bl.half a).length c72_6]) fp24 ze24 rfl rfl) (dp (lz (lj (lj (lj (lj (lj (lj (lz (lj (lj (lj (lj (lj (lj (lj (lj (lj (lj (lj (lj (ln)))))))))))))))))))))) ?_
      refine h_one (i := 8) (ls := #[T1,T1,T1,T1,T1,T1,T1,T1,T1]) (by kernel_rfl) rfl rfl ?_
      refine o_storeN (i := 7) (vs := [Vi (a.size.tdiv 2), Vi a.hashes, .slice a72_6 (Bl.half a).length c72_6]) (cs' := [Vi (a.size.tdiv 2), Vi a.hashes, .slice a72_6 (Bl.half a).length c72_6]) rfl rfl rfl sz24 rfl rfl rfl rfl ?_
      refine o_nil ?_
      refine h_next (dp (lz (lj (lj (lj (lj (lj (lj (lz (lj (lj (lj (lj (lj (lj (lj (lj (lj (lj (lj (lj (ln)))))))))))))))))))))) ?_
      refine h_done (by kernel_rfl) ?_
      refine q_heap (H' := [own tInt S72_6 a72_6 c72_6 (Bl.half a), own tInt S65_9 a65_9 c65_9 (Bl.both a.set (Bl.places a s) a.size), loose tInt (False) S60 a62 c63 (Bl.places a s), loose tInt (False) (fun _ => False) none 0 ([] : List Int), loose tInt (False) (fun _ => False) none 0 ([] : List Int), loose tInt (False) (fun _ => False) none 0 ([] : List Int), loose tInt (False) (fun _ => False) none 0 ([] : List Int), box B28 [Vi (a.size.tdiv 2), Vi a.hashes, .slice a72_6 (Bl.half a).length c72_6] 24, box B27 [Vi 0, Vi 0, .slice none 0 0] 24, box B26 [Vi a.size, Vi a.hashes, .slice a65_9 (Bl.both a.set (Bl.places a s) a.size).length c65_9] 24, box B25 [Vi ((Bl.fold a).size), Vi ((Bl.fold a).hashes), .slice a22 ((Bl.fold a).set).length c23] 24, own tInt S20 a22 c23 ((Bl.fold a).set), box B19 [Vi ((Bl.uni a b).size), Vi ((Bl.uni a b).hashes), .slice a16 ((Bl.uni a b).set).length c17] 24, own tInt S14 a16 c17 ((Bl.uni a b).set), box B13 [Vi ((Bl.add a s).size), Vi ((Bl.add a s).hashes), .slice a10 ((Bl.add a s).set).length c11] 24, own tInt S8 a10 c11 ((Bl.add a s).set), own tInt S3 a5 c6 (Bl.bits a s), box B2 [Vi b.size, Vi b.hashes, .slice ab_0 b.set.length cb_0] 24, box B1 [Vi a.size, Vi a.hashes, .slice aa_0 a.set.length ca_0] 24, base w0]) (fun w hw => HeapIs.toLoose (i := 2) (T := tInt) rfl hw) ?_
      refine q_heap (H' := [own tInt S72_6 a72_6 c72_6 (Bl.half a), loose tInt (False) S65_9 a65_9 c65_9 (Bl.both a.set (Bl.places a s) a.size), loose tInt (False) S60 a62 c63 (Bl.places a s), loose tInt (False) (fun _ => False) none 0 ([] : List Int), loose tInt (False) (fun _ => False) none 0 ([] : List Int), loose tInt (False) (fun _ => False) none 0 ([] : List Int), loose tInt (False) (fun _ => False) none 0 ([] : List Int), box B28 [Vi (a.size.tdiv 2), Vi a.hashes, .slice a72_6 (Bl.half a).length c72_6] 24, box B27 [Vi 0, Vi 0, .slice none 0 0] 24, box B26 [Vi a.size, Vi a.hashes, .slice a65_9 (Bl.both a.set (Bl.places a s) a.size).length c65_9] 24, box B25 [Vi ((Bl.fold a).size), Vi ((Bl.fold a).hashes), .slice a22 ((Bl.fold a).set).length c23] 24, own tInt S20 a22 c23 ((Bl.fold a).set), box B19 [Vi ((Bl.uni a b).size), Vi ((Bl.uni a b).hashes), .slice a16 ((Bl.uni a b).set).length c17] 24, own tInt S14 a16 c17 ((Bl.uni a b).set), box B13 [Vi ((Bl.add a s).size), Vi ((Bl.add a s).hashes), .slice a10 ((Bl.add a s).set).length c11] 24, own tInt S8 a10 c11 ((Bl.add a s).set), own tInt S3 a5 c6 (Bl.bits a s), box B2 [Vi b.size, Vi b.hashes, .slice ab_0 b.set.length cb_0] 24, box B1 [Vi a.size, Vi a.hashes, .slice aa_0 a.set.length ca_0] 24, base w0]) (fun w hw => HeapIs.toLoose (i := 1) (T := tInt) rfl hw) ?_
      refine q_heap (H' := [loose tInt (False) (fun _ => False) none 0 ([] : List Int), own tInt S72_6 a72_6 c72_6 (Bl.half a), loose tInt (False) S65_9 a65_9 c65_9 (Bl.both a.set (Bl.places a s) a.size), loose tInt (False) S60 a62 c63 (Bl.places a s), loose tInt (False) (fun _ => False) none 0 ([] : List Int), loose tInt (False) (fun _ => False) none 0 ([] : List Int), loose tInt (False) (fun _ => False) none 0 ([] : List Int), loose tInt (False) (fun _ => False) none 0 ([] : List Int), box B28 [Vi (a.size.tdiv 2), Vi a.hashes, .slice a72_6 (Bl.half a).length c72_6] 24, box B27 [Vi 0, Vi 0, .slice none 0 0] 24, box B26 [Vi a.size, Vi a.hashes, .slice a65_9 (Bl.both a.set (Bl.places a s) a.size).length c65_9] 24, box B25 [Vi ((Bl.fold a).size), Vi ((Bl.fold a).hashes), .slice a22 ((Bl.fold a).set).length c23] 24, own tInt S20 a22 c23 ((Bl.fold a).set), box B19 [Vi ((Bl.uni a b).size), Vi ((Bl.uni a b).hashes), .slice a16 ((Bl.uni a b).set).length c17] 24, own tInt S14 a16 c17 ((Bl.uni a b).set), box B13 [Vi ((Bl.add a s).size), Vi ((Bl.add a s).hashes), .slice a10 ((Bl.add a s).set).length c11] 24, own tInt S8 a10 c11 ((Bl.add a s).set), own tInt S3 a5 c6 (Bl.bits a s), box B2 [Vi b.size, Vi b.hashes, .slice ab_0 b.set.length cb_0] 24, box B1 [Vi a.size, Vi a.hashes, .slice aa_0 a.set.length ca_0] 24, base w0]) (fun w hw => HeapIs.looseNil tInt hw) ?_
      refine q_heap (H' := [loose tInt (False) (fun _ => False) none 0 ([] : List Int), loose tInt (False) S72_6 a72_6 c72_6 (Bl.half a), loose tInt (False) S65_9 a65_9 c65_9 (Bl.both a.set (Bl.places a s) a.size), loose tInt (False) S60 a62 c63 (Bl.places a s), loose tInt (False) (fun _ => False) none 0 ([] : List Int), loose tInt (False) (fun _ => False) none 0 ([] : List Int), loose tInt (False) (fun _ => False) none 0 ([] : List Int), loose tInt (False) (fun _ => False) none 0 ([] : List Int), box B28 [Vi (a.size.tdiv 2), Vi a.hashes, .slice a72_6 (Bl.half a).length c72_6] 24, box B27 [Vi 0, Vi 0, .slice none ([] : List Int).length 0] 24, box B26 [Vi a.size, Vi a.hashes, .slice a65_9 (Bl.both a.set (Bl.places a s) a.size).length c65_9] 24, box B25 [Vi ((Bl.fold a).size), Vi ((Bl.fold a).hashes), .slice a22 ((Bl.fold a).set).length c23] 24, own tInt S20 a22 c23 ((Bl.fold a).set), box B19 [Vi ((Bl.uni a b).size), Vi ((Bl.uni a b).hashes), .slice a16 ((Bl.uni a b).set).length c17] 24, own tInt S14 a16 c17 ((Bl.uni a b).set), box B13 [Vi ((Bl.add a s).size), Vi ((Bl.add a s).hashes), .slice a10 ((Bl.add a s).set).length c11] 24, own tInt S8 a10 c11 ((Bl.add a s).set), own tInt S3 a5 c6 (Bl.bits a s), box B2 [Vi b.size, Vi b.hashes, .slice ab_0 b.set.length cb_0] 24, box B1 [Vi a.size, Vi a.hashes, .slice aa_0 a.set.length ca_0] 24, base w0]) (fun w hw => HeapIs.toLoose (i := 1) (T := tInt) rfl hw) ?_
      refine q_join hK33 ((Bl.check a), 7, (Bl.check a), (Bl.places a s), a62, c63, S60, (Ref.sameInts (Bl.both a.set (Bl.places a s) a.size) a.set), (⟨a.size, a.hashes, (Bl.both a.set (Bl.places a s) a.size)⟩ : DFilter), a65_9, c65_9, S65_9, (⟨0, 0, ([] : List Int)⟩ : DFilter), none, 0, (fun _ => False), (⟨(a.size.tdiv 2), a.hashes, (Bl.half a)⟩ : DFilter), a72_6, c72_6, S72_6) ?_ (sr (sr (sr (sr (sr (sr (sr (sr (sr (sr (sr (sr (sr (sr (sr (sr (sr (sr (sr (sr (Sub.nil _))))))))))))))))))))) (pk [1, 0, 2, 3, 8, 9, 10, 11, 12, 13, 14, 15, 16, 17, 18, 19, 20])
      clear hK33
      refine ⟨?_, ?_, ?_⟩
      ·first | exact Bl.sA0 s hck | exact Bl.sA1 hck (by omega) | exact Bl.sA2 hck (by omega)
      ·first | exact Bl.sB0 b hck | exact Bl.sB1 hck (by omega) | exact Bl.sB2 hck (by omega) (by omega) | exact Bl.sB3 hck (by omega) (by omega)
      ·first | exact Bl.sC0 hck | exact Bl.sC1 hck (by omega) | exact Bl.sC2 hck (by omega)
    ·simp only [Bool.and_eq_false_iff, beq_eq_false_iff_ne, ne_eq, Bool.or_eq_false_iff, bne_eq_false_iff_eq] at hc68
     refine c_seq (c_region ?_)
     refine o_mv rfl rfl ?_
     refine o_p (p_eq rfl rfl) ?_
     refine o_nil (q_then ?_)
     refine c_cond rfl (fun hc74 => ?_) (fun hc74 => ?_)
     ·simp only [beq_iff_eq] at hc74
      refine c_held hmix [own tInt S65_9 a65_9 c65_9 (Bl.both a.set (Bl.places a s) a.size), own tInt S60 a62 c63 (Bl.places a s), loose tInt (False) (fun _ => False) none 0 ([] : List Int), loose tInt (False) (fun _ => False) none 0 ([] : List Int), loose tInt (False) (fun _ => False) none 0 ([] : List Int), loose tInt (False) (fun _ => False) none 0 ([] : List Int), box B28 [Vi 0, Vi 0, .slice none 0 0] 24, box B26 [Vi a.size, Vi a.hashes, .slice a65_9 (Bl.both a.set (Bl.places a s) a.size).length c65_9] 24, box B25 [Vi ((Bl.fold a).size), Vi ((Bl.fold a).hashes), .slice a22 ((Bl.fold a).set).length c23] 24, own tInt S20 a22 c23 ((Bl.fold a).set), box B19 [Vi ((Bl.uni a b).size), Vi ((Bl.uni a b).hashes), .slice a16 ((Bl.uni a b).set).length c17] 24, own tInt S14 a16 c17 ((Bl.uni a b).set), box B13 [Vi ((Bl.add a s).size), Vi ((Bl.add a s).hashes), .slice a10 ((Bl.add a s).set).length c11] 24, own tInt S8 a10 c11 ((Bl.add a s).set), own tInt S3 a5 c6 (Bl.bits a s), box B2 [Vi b.size, Vi b.hashes, .slice ab_0 b.set.length cb_0] 24, box B1 [Vi a.size, Vi a.hashes, .slice aa_0 a.set.length ca_0] 24, base w0] rfl rfl ?_
      refine h_tk (i := 0) (ls := #[T1,F0,F0,F0,F0,F0,F0,F0,F0,F0,F0,F0,F0]) rfl (p_fieldAddr (j' := 0) rfl fo24_0 rfl) (dp (lj (lj (lj (lj (lj (lj (lj (lz (lj (lj (lj (lj (lj (lj (lj (lj (lj (lj (lj (ln))))))))))))))))))))) ?_
      refine h_tk (i := 1) (ls := #[T1,T1,F0,F0,F0,F0,F0,F0,F0,F0,F0,F0,F0]) rfl (p_load (i := 16) (v := Vi a.size) rfl rfl sh3 rfl) (dp (lj (lj (lj (lj (lj (lj (lj (lz (lj (lj (lj (lj (lj (lj (lj (lj (lj (lj (lj (ln))))))))))))))))))))) ?_
      refine h_tk (i := 2) (ls := #[T1,T1,T1,F0,F0,F0,F0,F0,F0,F0,F0,F0,F0]) rfl (p_fieldAddr (j' := 1) rfl fo24_1 rfl) (dp (lj (lj (lj (lj (lj (lj (lj (lz (lj (lj (lj (lj (lj (lj (lj (lj (lj (lj (lj (ln))))))))))))))))))))) ?_
      refine h_tk (i := 3) (ls := #[T1,T1,T1,T1,F0,F0,F0,F0,F0,F0,F0,F0,F0]) rfl (p_load (i := 16) (v := Vi a.hashes) rfl rfl sh3 rfl) (dp (lj (lj (lj (lj (lj (lj (lj (lz (lj (lj (lj (lj (lj (lj (lj (lj (lj (lj (lj (ln))))))))))))))))))))) ?_
      refine h_tk (i := 4) (ls := #[T1,T1,T1,T1,T1,F0,F0,F0,F0,F0,F0,F0,F0]) rfl (p_fieldAddr (j' := 2) rfl fo24_2 rfl) (dp (lj (lj (lj (lj (lj (lj (lj (lz (lj (lj (lj (lj (lj (lj (lj (lj (lj (lj (lj (ln))))))))))))))))))))) ?_
      refine h_tk (i := 5) (ls := #[T1,T1,T1,T1,T1,T1,F0,F0,F0,F0,F0,F0,F0]) rfl (p_load (i := 16) (v := .slice aa_0 a.set.length ca_0) rfl rfl sh22 rfl) (dp (lj (lj (lj (lj (lj (lj (lj (lz (lj (lj (lj (lj (lj (lj (lj (lj (lj (lj (lj (ln))))))))))))))))))))) ?_
      refine h_tk (i := 6) (ls := #[T1,T1,T1,T1,T1,T1,T1,F0,F0,F0,F0,F0,F0]) rfl (p_fieldAddr (j' := 2) rfl fo24_2 rfl) (dp (lj (lj (lj (lj (lj (lj (lj (lz (lj (lj (lj (lj (lj (lj (lj (lj (lj (lj (lj (ln))))))))))))))))))))) ?_
      refine h_tk (i := 7) (ls := #[T1,T1,T1,T1,T1,T1,T1,T1,F0,F0,F0,F0,F0]) rfl (p_load (i := 15) (v := .slice ab_0 b.set.length cb_0) rfl rfl sh22 rfl) (dp (lj (lj (lj (lj (lj (lj (lj (lz (lj (lj (lj (lj (lj (lj (lj (lj (lj (lj (lj (ln))))))))))))))))))))) ?_
      refine h_tk (i := 8) (ls := #[T1,T1,T1,T1,T1,T1,T1,T1,T1,F0,F0,F0,F0]) rfl (p_fieldAddr (j' := 0) rfl fo24_0 rfl) (dp (lj (lj (lj (lj (lj (lj (lj (lz (lj (lj (lj (lj (lj (lj (lj (lj (lj (lj (lj (ln))))))))))))))))))))) ?_
      refine h_tk (i := 9) (ls := #[T1,T1,T1,T1,T1,T1,T1,T1,T1,T1,F0,F0,F0]) rfl (p_load (i := 16) (v := Vi a.size) rfl rfl sh3 rfl) (dp (lj (lj (lj (lj (lj (lj (lj (lz (lj (lj (lj (lj (lj (lj (lj (lj (lj (lj (lj (ln))))))))))))))))))))) ?_
      refine h_one (i := 10) (ls := #[T1,T1,T1,T1,T1,T1,T1,T1,T1,T1,T1,F0,F0]) (by kernel_rfl) rfl rfl ?_
      refine o_callM rfl (setBoth_ok a.set aa_0 ca_0 b.set ab_0 cb_0 a.size (by first | assumption | omega)) hf17 (fun w hw => ⟨(rd_base (i := 18) rfl ha_0) w hw, (rd_base (i := 18) rfl hb_0) w hw⟩) rfl (fun _ _ _ _ ha hA => SlO.agree ha hA) ?_
      rintro ⟨a75_10, c75_10⟩ S75_10
      refine o_know (fun w hw => own_len (i := 0) (T := tInt) hw rfl) (fun hlr75_10 => ?_)
      refine o_nil ?_
      refine h_next (dp (lz (lj (lj (lj (lj (lj (lj (lj (lz (lj (lj (lj (lj (lj (lj (lj (lj (lj (lj (lj (ln)))))))))))))))))))))) ?_
      refine h_tk (i := 11) (ls := #[T1,T1,T1,T1,T1,T1,T1,T1,T1,T1,T1,T1,F0]) rfl (p_build (cells := [Vi a.size, Vi a.hashes, .slice a75_10 (Bl.both a.set b.set a.size).length c75_10]) fp24 ze24 rfl rfl) (dp (lz (lj (lj (lj (lj (lj (lj (lj (lz (lj (lj (lj (lj (lj (lj (lj (lj (lj (lj (lj (ln)))))))))))))))))))))) ?_
      refine h_one (i := 12) (ls := #[T1,T1,T1,T1,T1,T1,T1,T1,T1,T1,T1,T1,T1]) (by kernel_rfl) rfl rfl ?_
      refine o_storeN (i := 8) (vs := [Vi a.size, Vi a.hashes, .slice a75_10 (Bl.both a.set b.set a.size).length c75_10]) (cs' := [Vi a.size, Vi a.hashes, .slice a75_10 (Bl.both a.set b.set a.size).length c75_10]) rfl rfl rfl sz24 rfl rfl rfl rfl ?_
      refine o_nil ?_
      refine h_next (dp (lz (lj (lj (lj (lj (lj (lj (lj (lz (lj (lj (lj (lj (lj (lj (lj (lj (lj (lj (lj (ln)))))))))))))))))))))) ?_
      refine h_done (by kernel_rfl) ?_
      refine q_then (c_seq (c_region ?_))
      refine o_p (p_fieldAddr (j' := 0) rfl fo24_0 rfl) ?_
      refine o_p (p_load (i := 18) (v := Vi a.size) rfl rfl sh3 rfl) ?_
      refine o_p (p_rem (p := a.size) (q := 2) rfl rfl (by decide)) ?_
      refine o_p (p_eq rfl rfl) ?_
      refine o_nil (q_then ?_)
      refine c_cond rfl (fun hc76 => ?_) (fun hc76 => ?_)
      ·simp only [beq_iff_eq] at hc76
       refine c_region ?_
       refine o_as rfl rfl ?_
       refine o_nil ?_
       refine q_heap (H' := [own tInt S75_10 a75_10 c75_10 (Bl.both a.set b.set a.size), own tInt S65_9 a65_9 c65_9 (Bl.both a.set (Bl.places a s) a.size), loose tInt (False) S60 a62 c63 (Bl.places a s), loose tInt (False) (fun _ => False) none 0 ([] : List Int), loose tInt (False) (fun _ => False) none 0 ([] : List Int), loose tInt (False) (fun _ => False) none 0 ([] : List Int), loose tInt (False) (fun _ => False) none 0 ([] : List Int), box B28 [Vi 0, Vi 0, .slice none 0 0] 24, box B27 [Vi a.size, Vi a.hashes, .slice a75_10 (Bl.both a.set b.set a.size).length c75_10] 24, box B26 [Vi a.size, Vi a.hashes, .slice a65_9 (Bl.both a.set (Bl.places a s) a.size).length c65_9] 24, box B25 [Vi ((Bl.fold a).size), Vi ((Bl.fold a).hashes), .slice a22 ((Bl.fold a).set).length c23] 24, own tInt S20 a22 c23 ((Bl.fold a).set), box B19 [Vi ((Bl.uni a b).size), Vi ((Bl.uni a b).hashes), .slice a16 ((Bl.uni a b).set).length c17] 24, own tInt S14 a16 c17 ((Bl.uni a b).set), box B13 [Vi ((Bl.add a s).size), Vi ((Bl.add a s).hashes), .slice a10 ((Bl.add a s).set).length c11] 24, own tInt S8 a10 c11 ((Bl.add a s).set), own tInt S3 a5 c6 (Bl.bits a s), box B2 [Vi b.size, Vi b.hashes, .slice ab_0 b.set.length cb_0] 24, box B1 [Vi a.size, Vi a.hashes, .slice aa_0 a.set.length ca_0] 24, base w0]) (fun w hw => HeapIs.toLoose (i := 2) (T := tInt) rfl hw) ?_
       refine q_heap (H' := [own tInt S75_10 a75_10 c75_10 (Bl.both a.set b.set a.size), loose tInt (False) S65_9 a65_9 c65_9 (Bl.both a.set (Bl.places a s) a.size), loose tInt (False) S60 a62 c63 (Bl.places a s), loose tInt (False) (fun _ => False) none 0 ([] : List Int), loose tInt (False) (fun _ => False) none 0 ([] : List Int), loose tInt (False) (fun _ => False) none 0 ([] : List Int), loose tInt (False) (fun _ => False) none 0 ([] : List Int), box B28 [Vi 0, Vi 0, .slice none 0 0] 24, box B27 [Vi a.size, Vi a.hashes, .slice a75_10 (Bl.both a.set b.set a.size).length c75_10] 24, box B26 [Vi a.size, Vi a.hashes, .slice a65_9 (Bl.both a.set (Bl.places a s) a.size).length c65_9] 24, box B25 [Vi ((Bl.fold a).size), Vi ((Bl.fold a).hashes), .slice a22 ((Bl.fold a).set).length c23] 24, own tInt S20 a22 c23 ((Bl.fold a).set), box B19 [Vi ((Bl.uni a b).size), Vi ((Bl.uni a b).hashes), .slice a16 ((Bl.uni a b).set).length c17] 24, own tInt S14 a16 c17 ((Bl.uni a b).set), box B13 [Vi ((Bl.add a s).size), Vi ((Bl.add a s).hashes), .slice a10 ((Bl.add a s).set).length c11] 24, own tInt S8 a10 c11 ((Bl.add a s).set), own tInt S3 a5 c6 (Bl.bits a s), box B2 [Vi b.size, Vi b.hashes, .slice ab_0 b.set.length cb_0] 24, box B1 [Vi a.size, Vi a.hashes, .slice aa_0 a.set.length ca_0] 24, base w0]) (fun w hw => HeapIs.toLoose (i := 1) (T := tInt) rfl hw) ?_
       refine q_heap (H' := [loose tInt (False) S75_10 a75_10 c75_10 (Bl.both a.set b.set a.size), loose tInt (False) S65_9 a65_9 c65_9 (Bl.both a.set (Bl.places a s) a.size), loose tInt (False) S60 a62 c63 (Bl.places a s), loose tInt (False) (fun _ => False) none 0 ([] : List Int), loose tInt (False) (fun _ => False) none 0 ([] : List Int), loose tInt (False) (fun _ => False) none 0 ([] : List Int), loose tInt (False) (fun _ => False) none 0 ([] : List Int), box B28 [Vi 0, Vi 0, .slice none 0 0] 24, box B27 [Vi a.size, Vi a.hashes, .slice a75_10 (Bl.both a.set b.set a.size).length c75_10] 24, box B26 [Vi a.size, Vi a.hashes, .slice a65_9 (Bl.both a.set (Bl.places a s) a.size).length c65_9] 24, box B25 [Vi ((Bl.fold a).size), Vi ((Bl.fold a).hashes), .slice a22 ((Bl.fold a).set).length c23] 24, own tInt S20 a22 c23 ((Bl.fold a).set), box B19 [Vi ((Bl.uni a b).size), Vi ((Bl.uni a b).hashes), .slice a16 ((Bl.uni a b).set).length c17] 24, own tInt S14 a16 c17 ((Bl.uni a b).set), box B13 [Vi ((Bl.add a s).size), Vi ((Bl.add a s).hashes), .slice a10 ((Bl.add a s).set).length c11] 24, own tInt S8 a10 c11 ((Bl.add a s).set), own tInt S3 a5 c6 (Bl.bits a s), box B2 [Vi b.size, Vi b.hashes, .slice ab_0 b.set.length cb_0] 24, box B1 [Vi a.size, Vi a.hashes, .slice aa_0 a.set.length ca_0] 24, base w0]) (fun w hw => HeapIs.toLoose (i := 0) (T := tInt) rfl hw) ?_
       refine q_heap (H' := [loose tInt (False) (fun _ => False) none 0 ([] : List Int), loose tInt (False) S75_10 a75_10 c75_10 (Bl.both a.set b.set a.size), loose tInt (False) S65_9 a65_9 c65_9 (Bl.both a.set (Bl.places a s) a.size), loose tInt (False) S60 a62 c63 (Bl.places a s), loose tInt (False) (fun _ => False) none 0 ([] : List Int), loose tInt (False) (fun _ => False) none 0 ([] : List Int), loose tInt (False) (fun _ => False) none 0 ([] : List Int), loose tInt (False) (fun _ => False) none 0 ([] : List Int), box B28 [Vi 0, Vi 0, .slice none 0 0] 24, box B27 [Vi a.size, Vi a.hashes, .slice a75_10 (Bl.both a.set b.set a.size).length c75_10] 24, box B26 [Vi a.size, Vi a.hashes, .slice a65_9 (Bl.both a.set (Bl.places a s) a.size).length c65_9] 24, box B25 [Vi ((Bl.fold a).size), Vi ((Bl.fold a).hashes), .slice a22 ((Bl.fold a).set).length c23] 24, own tInt S20 a22 c23 ((Bl.fold a).set), box B19 [Vi ((Bl.uni a b).size), Vi ((Bl.uni a b).hashes), .slice a16 ((Bl.uni a b).set).length c17] 24, own tInt S14 a16 c17 ((Bl.uni a b).set), box B13 [Vi ((Bl.add a s).size), Vi ((Bl.add a s).hashes), .slice a10 ((Bl.add a s).set).length c11] 24, own tInt S8 a10 c11 ((Bl.add a s).set), own tInt S3 a5 c6 (Bl.bits a s), box B2 [Vi b.size, Vi b.hashes, .slice ab_0 b.set.length cb_0] 24, box B1 [Vi a.size, Vi a.hashes, .slice aa_0 a.set.length ca_0] 24, base w0]) (fun w hw => HeapIs.looseNil tInt hw) ?_
       refine q_join hK33 ((Bl.check a), (Bl.check b), 4, (Bl.places a s), a62, c63, S60, (Ref.sameInts (Bl.both a.set (Bl.places a s) a.size) a.set), (⟨a.size, a.hashes, (Bl.both a.set (Bl.places a s) a.size)⟩ : DFilter), a65_9, c65_9, S65_9, (⟨a.size, a.hashes, (Bl.both a.set b.set a.size)⟩ : DFilter), a75_10, c75_10, S75_10, (⟨0, 0, ([] : List Int)⟩ : DFilter), none, 0, (fun _ => False)) ?_ (sr (sr (sr (sr (sr (sr (sr (sr (sr (sr (sr (sr (sr (sr (sr (sr (sr (sr (sr (sr (Sub.nil _))))))))))))))))))))) (pk [0, 1, 2, 3, 8, 9, 10, 11, 12, 13, 14, 15, 16, 17, 18, 19, 20])
       clear hK33
       refine ⟨?_, ?_, ?_⟩
       ·first | exact Bl.sA0 s hck | exact Bl.sA1 hck (by omega) | exact Bl.sA2 hck (by omega)
       ·first | exact Bl.sB0 b hck | exact Bl.sB1 hck (by omega) | exact Bl.sB2 hck (by omega) (by omega) | exact Bl.sB3 hck (by omega) (by omega)
       ·first | exact Bl.sC0 hck | exact Bl.sC1 hck (by omega) | exact Bl.sC2 hck (by omega)
      ·simp only [beq_eq_false_iff_ne, ne_eq] at hc76
       refine c_held hmix [own tInt S75_10 a75_10 c75_10 (Bl.both a.set b.set a.size), own tInt S65_9 a65_9 c65_9 (Bl.both a.set (Bl.places a s) a.size), own tInt S60 a62 c63 (Bl.places a s), loose tInt (False) (fun _ => False) none 0 ([] : List Int), loose tInt (False) (fun _ => False) none 0 ([] : List Int), loose tInt (False) (fun _ => False) none 0 ([] : List Int), loose tInt (False) (fun _ => False) none 0 ([] : List Int), box B27 [Vi a.size, Vi a.hashes, .slice a75_10 (Bl.both a.set b.set a.size).length c75_10] 24, box B26 [Vi a.size, Vi a.hashes, .slice a65_9 (Bl.both a.set (Bl.places a s) a.size).length c65_9] 24, box B25 [Vi ((Bl.fold a).size), Vi ((Bl.fold a).hashes), .slice a22 ((Bl.fold a).set).length c23] 24, own tInt S20 a22 c23 ((Bl.fold a).set), box B19 [Vi ((Bl.uni a b).size), Vi ((Bl.uni a b).hashes), .slice a16 ((Bl.uni a b).set).length c17] 24, own tInt S14 a16 c17 ((Bl.uni a b).set), box B13 [Vi ((Bl.add a s).size), Vi ((Bl.add a s).hashes), .slice a10 ((Bl.add a s).set).length c11] 24, own tInt S8 a10 c11 ((Bl.add a s).set), own tInt S3 a5 c6 (Bl.bits a s), box B2 [Vi b.size, Vi b.hashes, .slice ab_0 b.set.length cb_0] 24, box B1 [Vi a.size, Vi a.hashes, .slice aa_0 a.set.length ca_0] 24, base w0] rfl rfl ?_
       refine h_tk (i := 0) (ls := #[T1,F0,F0,F0,F0,F0,F0,F0,F0]) rfl (p_fieldAddr (j' := 0) rfl fo24_0 rfl) (dp (lj (lj (lj (lj (lj (lj (lj (lz (lj (lj (lj (lj (lj (lj (lj (lj (lj (lj (lj (lj (ln)))))))))))))))))))))) ?_
       refine h_tk (i := 1) (ls := #[T1,T1,F0,F0,F0,F0,F0,F0,F0]) rfl (p_load (i := 17) (v := Vi a.size) rfl rfl sh3 rfl) (dp (lj (lj (lj (lj (lj (lj (lj (lz (lj (lj (lj (lj (lj (lj (lj (lj (lj (lj (lj (lj (ln)))))))))))))))))))))) ?_
       refine h_tk (i := 2) (ls := #[T1,T1,T1,F0,F0,F0,F0,F0,F0]) rfl (p_quob (p := a.size) (q := 2) rfl rfl (by decide) (by omega)) (dp (lj (lj (lj (lj (lj (lj (lj (lz (lj (lj (lj (lj (lj (lj (lj (lj (lj (lj (lj (lj (ln)))))))))))))))))))))) ?_
       refine h_tk (i := 3) (ls := #[T1,T1,T1,T1,F0,F0,F0,F0,F0]) rfl (p_fieldAddr (j' := 1) rfl fo24_1 rfl) (dp (lj (lj (lj (lj (lj (lj (lj (lz (lj (lj (lj (lj (lj (lj (lj (lj (lj (lj (lj (lj (ln)))))))))))))))))))))) ?_
       refine h_tk (i := 4) (ls := #[T1,T1,T1,T1,T1,F0,F0,F0,F0]) rfl (p_load (i := 17) (v := Vi a.hashes) rfl rfl sh3 rfl) (dp (lj (lj (lj (lj (lj (lj (lj (lz (lj (lj (lj (lj (lj (lj (lj (lj (lj (lj (lj (lj (ln)))))))))))))))))))))) ?_
       refine h_tk (i := 5) (ls := #[T1,T1,T1,T1,T1,T1,F0,F0,F0]) rfl (p_load_agg (i := 17) (vs := [Vi a.size, Vi a.hashes, .slice aa_0 a.set.length ca_0]) rfl rfl sh24 rfl rfl) (dp (lj (lj (lj (lj (lj (lj (lj (lz (lj (lj (lj (lj (lj (lj (lj (lj (lj (lj (lj (lj (ln)))))))))))))))))))))) ?_
       refine h_one (i := 6) (ls := #[T1,T1,T1,T1,T1,T1,T1,F0,F0]) (by kernel_rfl) rfl rfl ?_
       refine o_callM rfl (bloomHalf_ok a aa_0 ca_0 (by first | assumption | omega)) hf19 (fun w hw => (rd_base (i := 19) rfl ha_0) w hw) rfl (fun _ _ _ _ ha hA => SlO.agree ha hA) ?_
       rintro ⟨a78_6, c78_6⟩ S78_6
       refine o_know (fun w hw => own_len (i := 0) (T := tInt) hw rfl) (fun hlr78_6 => ?_)
       refine o_nil ?_
       refine h_next (dp (lz (lj (lj (lj (lj (lj (lj (lj (lz (lj (lj (lj (lj (lj (lj (lj (lj (lj (lj (lj (lj (ln))))))))))))))))))))))) ?_
       refine h_tk (i := 7) (ls := #[T1,T1,T1,T1,T1,T1,T1,T1,F0]) rfl (p_build (cells := [Vi (a.size.tdiv 2), Vi a.hashes, .slice a78_6 (Bl.half a).length c78_6]) fp24 ze24 rfl rfl) (dp (lz (lj (lj (lj (lj (lj (lj (lj (lz (lj (lj (lj (lj (lj (lj (lj (lj (lj (lj (lj (lj (ln))))))))))))))))))))))) ?_
       refine h_one (i := 8) (ls := #[T1,T1,T1,T1,T1,T1,T1,T1,T1]) (by kernel_rfl) rfl rfl ?_
       refine o_storeN (i := 8) (vs := [Vi (a.size.tdiv 2), Vi a.hashes, .slice a78_6 (Bl.half a).length c78_6]) (cs' := [Vi (a.size.tdiv 2), Vi a.hashes, .slice a78_6 (Bl.half a).length c78_6]) rfl rfl rfl sz24 rfl rfl rfl rfl ?_
       refine o_nil ?_
       refine h_next (dp (lz (lj (lj (lj (lj (lj (lj (lj (lz (lj (lj (lj (lj (lj (lj (lj (lj (lj (lj (lj (lj (ln))))))))))))))))))))))) ?_
       refine h_done (by kernel_rfl) ?_
       refine q_heap (H' := [own tInt S78_6 a78_6 c78_6 (Bl.half a), own tInt S75_10 a75_10 c75_10 (Bl.both a.set b.set a.size), own tInt S65_9 a65_9 c65_9 (Bl.both a.set (Bl.places a s) a.size), loose tInt (False) S60 a62 c63 (Bl.places a s), loose tInt (False) (fun _ => False) none 0 ([] : List Int), loose tInt (False) (fun _ => False) none 0 ([] : List Int), loose tInt (False) (fun _ => False) none 0 ([] : List Int), loose tInt (False) (fun _ => False) none 0 ([] : List Int), box B28 [Vi (a.size.tdiv 2), Vi a.hashes, .slice a78_6 (Bl.half a).length c78_6] 24, box B27 [Vi a.size, Vi a.hashes, .slice a75_10 (Bl.both a.set b.set a.size).length c75_10] 24, box B26 [Vi a.size, Vi a.hashes, .slice a65_9 (Bl.both a.set (Bl.places a s) a.size).length c65_9] 24, box B25 [Vi ((Bl.fold a).size), Vi ((Bl.fold a).hashes), .slice a22 ((Bl.fold a).set).length c23] 24, own tInt S20 a22 c23 ((Bl.fold a).set), box B19 [Vi ((Bl.uni a b).size), Vi ((Bl.uni a b).hashes), .slice a16 ((Bl.uni a b).set).length c17] 24, own tInt S14 a16 c17 ((Bl.uni a b).set), box B13 [Vi ((Bl.add a s).size), Vi ((Bl.add a s).hashes), .slice a10 ((Bl.add a s).set).length c11] 24, own tInt S8 a10 c11 ((Bl.add a s).set), own tInt S3 a5 c6 (Bl.bits a s), box B2 [Vi b.size, Vi b.hashes, .slice ab_0 b.set.length cb_0] 24, box B1 [Vi a.size, Vi a.hashes, .slice aa_0 a.set.length ca_0] 24, base w0]) (fun w hw => HeapIs.toLoose (i := 3) (T := tInt) rfl hw) ?_
       refine q_heap (H' := [own tInt S78_6 a78_6 c78_6 (Bl.half a), own tInt S75_10 a75_10 c75_10 (Bl.both a.set b.set a.size), loose tInt (False) S65_9 a65_9 c65_9 (Bl.both a.set (Bl.places a s) a.size), loose tInt (False) S60 a62 c63 (Bl.places a s), loose tInt (False) (fun _ => False) none 0 ([] : List Int), loose tInt (False) (fun _ => False) none 0 ([] : List Int), loose tInt (False) (fun _ => False) none 0 ([] : List Int), loose tInt (False) (fun _ => False) none 0 ([] : List Int), box B28 [Vi (a.size.tdiv 2), Vi a.hashes, .slice a78_6 (Bl.half a).length c78_6] 24, box B27 [Vi a.size, Vi a.hashes, .slice a75_10 (Bl.both a.set b.set a.size).length c75_10] 24, box B26 [Vi a.size, Vi a.hashes, .slice a65_9 (Bl.both a.set (Bl.places a s) a.size).length c65_9] 24, box B25 [Vi ((Bl.fold a).size), Vi ((Bl.fold a).hashes), .slice a22 ((Bl.fold a).set).length c23] 24, own tInt S20 a22 c23 ((Bl.fold a).set), box B19 [Vi ((Bl.uni a b).size), Vi ((Bl.uni a b).hashes), .slice a16 ((Bl.uni a b).set).length c17] 24, own tInt S14 a16 c17 ((Bl.uni a b).set), box B13 [Vi ((Bl.add a s).size), Vi ((Bl.add a s).hashes), .slice a10 ((Bl.add a s).set).length c11] 24, own tInt S8 a10 c11 ((Bl.add a s).set), own tInt S3 a5 c6 (Bl.bits a s), box B2 [Vi b.size, Vi b.hashes, .slice ab_0 b.set.length cb_0] 24, box B1 [Vi a.size, Vi a.hashes, .slice aa_0 a.set.length ca_0] 24, base w0]) (fun w hw => HeapIs.toLoose (i := 2) (T := tInt) rfl hw) ?_
       refine q_heap (H' := [own tInt S78_6 a78_6 c78_6 (Bl.half a), loose tInt (False) S75_10 a75_10 c75_10 (Bl.both a.set b.set a.size), loose tInt (False) S65_9 a65_9 c65_9 (Bl.both a.set (Bl.places a s) a.size), loose tInt (False) S60 a62 c63 (Bl.places a s), loose tInt (False) (fun _ => False) none 0 ([] : List Int), loose tInt (False) (fun _ => False) none 0 ([] : List Int), loose tInt (False) (fun _ => False) none 0 ([] : List Int), loose tInt (False) (fun _ => False) none 0 ([] : List Int), box B28 [Vi (a.size.tdiv 2), Vi a.hashes, .slice a78_6 (Bl.half a).length c78_6] 24, box B27 [Vi a.size, Vi a.hashes, .slice a75_10 (Bl.both a.set b.set a.size).length c75_10] 24, box B26 [Vi a.size, Vi a.hashes, .slice a65_9 (Bl.both a.set (Bl.places a s) a.size).length c65_9] 24, box B25 [Vi ((Bl.fold a).size), Vi ((Bl.fold a).hashes), .slice a22 ((Bl.fold a).set).length c23] 24, own tInt S20 a22 c23 ((Bl.fold a).set), box B19 [Vi ((Bl.uni a b).size), Vi ((Bl.uni a b).hashes), .slice a16 ((Bl.uni a b).set).length c17] 24, own tInt S14 a16 c17 ((Bl.uni a b).set), box B13 [Vi ((Bl.add a s).size), Vi ((Bl.add a s).hashes), .slice a10 ((Bl.add a s).set).length c11] 24, own tInt S8 a10 c11 ((Bl.add a s).set), own tInt S3 a5 c6 (Bl.bits a s), box B2 [Vi b.size, Vi b.hashes, .slice ab_0 b.set.length cb_0] 24, box B1 [Vi a.size, Vi a.hashes, .slice aa_0 a.set.length ca_0] 24, base w0]) (fun w hw => HeapIs.toLoose (i := 1) (T := tInt) rfl hw) ?_
       refine q_heap (H' := [loose tInt (False) S78_6 a78_6 c78_6 (Bl.half a), loose tInt (False) S75_10 a75_10 c75_10 (Bl.both a.set b.set a.size), loose tInt (False) S65_9 a65_9 c65_9 (Bl.both a.set (Bl.places a s) a.size), loose tInt (False) S60 a62 c63 (Bl.places a s), loose tInt (False) (fun _ => False) none 0 ([] : List Int), loose tInt (False) (fun _ => False) none 0 ([] : List Int), loose tInt (False) (fun _ => False) none 0 ([] : List Int), loose tInt (False) (fun _ => False) none 0 ([] : List Int), box B28 [Vi (a.size.tdiv 2), Vi a.hashes, .slice a78_6 (Bl.half a).length c78_6] 24, box B27 [Vi a.size, Vi a.hashes, .slice a75_10 (Bl.both a.set b.set a.size).length c75_10] 24, box B26 [Vi a.size, Vi a.hashes, .slice a65_9 (Bl.both a.set (Bl.places a s) a.size).length c65_9] 24, box B25 [Vi ((Bl.fold a).size), Vi ((Bl.fold a).hashes), .slice a22 ((Bl.fold a).set).length c23] 24, own tInt S20 a22 c23 ((Bl.fold a).set), box B19 [Vi ((Bl.uni a b).size), Vi ((Bl.uni a b).hashes), .slice a16 ((Bl.uni a b).set).length c17] 24, own tInt S14 a16 c17 ((Bl.uni a b).set), box B13 [Vi ((Bl.add a s).size), Vi ((Bl.add a s).hashes), .slice a10 ((Bl.add a s).set).length c11] 24, own tInt S8 a10 c11 ((Bl.add a s).set), own tInt S3 a5 c6 (Bl.bits a s), box B2 [Vi b.size, Vi b.hashes, .slice ab_0 b.set.length cb_0] 24, box B1 [Vi a.size, Vi a.hashes, .slice aa_0 a.set.length ca_0] 24, base w0]) (fun w hw => HeapIs.toLoose (i := 0) (T := tInt) rfl hw) ?_
       refine q_join hK33 ((Bl.check a), (Bl.check b), (Bl.check a), (Bl.places a s), a62, c63, S60, (Ref.sameInts (Bl.both a.set (Bl.places a s) a.size) a.set), (⟨a.size, a.hashes, (Bl.both a.set (Bl.places a s) a.size)⟩ : DFilter), a65_9, c65_9, S65_9, (⟨a.size, a.hashes, (Bl.both a.set b.set a.size)⟩ : DFilter), a75_10, c75_10, S75_10, (⟨(a.size.tdiv 2), a.hashes, (Bl.half a)⟩ : DFilter), a78_6, c78_6, S78_6) ?_ (sr (sr (sr (sr (sr (sr (sr (sr (sr (sr (sr (sr (sr (sr (sr (sr (sr (sr (sr (sr (Sub.nil _))))))))))))))))))))) (pk [0, 1, 2, 3, 8, 9, 10, 11, 12, 13, 14, 15, 16, 17, 18, 19, 20])
       clear hK33
       refine ⟨?_, ?_, ?_⟩
       ·first | exact Bl.sA0 s hck | exact Bl.sA1 hck (by omega) | exact Bl.sA2 hck (by omega)
       ·first | exact Bl.sB0 b hck | exact Bl.sB1 hck (by omega) | exact Bl.sB2 hck (by omega) (by omega) | exact Bl.sB3 hck (by omega) (by omega)
       ·first | exact Bl.sC0 hck | exact Bl.sC1 hck (by omega) | exact Bl.sC2 hck (by omega)
     ·simp only [beq_eq_false_iff_ne, ne_eq] at hc74
      refine c_skip (q_then (c_seq (c_region ?_)))
      refine o_p (p_fieldAddr (j' := 0) rfl fo24_0 rfl) ?_
      refine o_p (p_load (i := 17) (v := Vi a.size) rfl rfl sh3 rfl) ?_
      refine o_p (p_rem (p := a.size) (q := 2) rfl rfl (by decide)) ?_
      refine o_p (p_eq rfl rfl) ?_
      refine o_nil (q_then ?_)
      refine c_cond rfl (fun hc79 => ?_) (fun hc79 => ?_)
      ·simp only [beq_iff_eq] at hc79
       refine c_region ?_
       refine o_as rfl rfl ?_
       refine o_nil ?_
       refine q_heap (H' := [own tInt S65_9 a65_9 c65_9 (Bl.both a.set (Bl.places a s) a.size), loose tInt (False) S60 a62 c63 (Bl.places a s), loose tInt (False) (fun _ => False) none 0 ([] : List Int), loose tInt (False) (fun _ => False) none 0 ([] : List Int), loose tInt (False) (fun _ => False) none 0 ([] : List Int), loose tInt (False) (fun _ => False) none 0 ([] : List Int), box B28 [Vi 0, Vi 0, .slice none 0 0] 24, box B27 [Vi 0, Vi 0, .slice none 0 0] 24, box B26 [Vi a.size, Vi a.hashes, .slice a65_9 (Bl.both a.set (Bl.places a s) a.size).length c65_9] 24, box B25 [Vi ((Bl.fold a).size), Vi ((Bl.fold a).hashes), .slice a22 ((Bl.fold a).set).length c23] 24, own tInt S20 a22 c23 ((Bl.fold a).set), box B19 [Vi ((Bl.uni a b).size), Vi ((Bl.uni a b).hashes), .slice a16 ((Bl.uni a b).set).length c17] 24, own tInt S14 a16 c17 ((Bl.uni a b).set), box B13 [Vi ((Bl.add a s).size), Vi ((Bl.add a s).hashes), .slice a10 ((Bl.add a s).set).length c11] 24, own tInt S8 a10 c11 ((Bl.add a s).set), own tInt S3 a5 c6 (Bl.bits a s), box B2 [Vi b.size, Vi b.hashes, .slice ab_0 b.set.length cb_0] 24, box B1 [Vi a.size, Vi a.hashes, .slice aa_0 a.set.length ca_0] 24, base w0]) (fun w hw => HeapIs.toLoose (i := 1) (T := tInt) rfl hw) ?_
       refine q_heap (H' := [loose tInt (False) S65_9 a65_9 c65_9 (Bl.both a.set (Bl.places a s) a.size), loose tInt (False) S60 a62 c63 (Bl.places a s), loose tInt (False) (fun _ => False) none 0 ([] : List Int), loose tInt (False) (fun _ => False) none 0 ([] : List Int), loose tInt (False) (fun _ => False) none 0 ([] : List Int), loose tInt (False) (fun _ => False) none 0 ([] : List Int), box B28 [Vi 0, Vi 0, .slice none 0 0] 24, box B27 [Vi 0, Vi 0, .slice none 0 0] 24, box B26 [Vi a.size, Vi a.hashes, .slice a65_9 (Bl.both a.set (Bl.places a s) a.size).length c65_9] 24, box B25 [Vi ((Bl.fold a).size), Vi ((Bl.fold a).hashes), .slice a22 ((Bl.fold a).set).length c23] 24, own tInt S20 a22 c23 ((Bl.fold a).set), box B19 [Vi ((Bl.uni a b).size), Vi ((Bl.uni a b).hashes), .slice a16 ((Bl.uni a b).set).length c17] 24, own tInt S14 a16 c17 ((Bl.uni a b).set), box B13 [Vi ((Bl.add a s).size), Vi ((Bl.add a s).hashes), .slice a10 ((Bl.add a s).set).length c11] 24, own tInt S8 a10 c11 ((Bl.add a s).set), own tInt S3 a5 c6 (Bl.bits a s), box B2 [Vi b.size, Vi b.hashes, .slice ab_0 b.set.length cb_0] 24, box B1 [Vi a.size, Vi a.hashes, .slice aa_0 a.set.length ca_0] 24, base w0]) (fun w hw => HeapIs.toLoose (i := 0) (T := tInt) rfl hw) ?_
       refine q_heap (H' := [loose tInt (False) (fun _ => False) none 0 ([] : List Int), loose tInt (False) S65_9 a65_9 c65_9 (Bl.both a.set (Bl.places a s) a.size), loose tInt (False) S60 a62 c63 (Bl.places a s), loose tInt (False) (fun _ => False) none 0 ([] : List Int), loose tInt (False) (fun _ => False) none 0 ([] : List Int), loose tInt (False) (fun _ => False) none 0 ([] : List Int), loose tInt (False) (fun _ => False) none 0 ([] : List Int), box B28 [Vi 0, Vi 0, .slice none 0 0] 24, box B27 [Vi 0, Vi 0, .slice none 0 0] 24, box B26 [Vi a.size, Vi a.hashes, .slice a65_9 (Bl.both a.set (Bl.places a s) a.size).length c65_9] 24, box B25 [Vi ((Bl.fold a).size), Vi ((Bl.fold a).hashes), .slice a22 ((Bl.fold a).set).length c23] 24, own tInt S20 a22 c23 ((Bl.fold a).set), box B19 [Vi ((Bl.uni a b).size), Vi ((Bl.uni a b).hashes), .slice a16 ((Bl.uni a b).set).length c17] 24, own tInt S14 a16 c17 ((Bl.uni a b).set), box B13 [Vi ((Bl.add a s).size), Vi ((Bl.add a s).hashes), .slice a10 ((Bl.add a s).set).length c11] 24, own tInt S8 a10 c11 ((Bl.add a s).set), own tInt S3 a5 c6 (Bl.bits a s), box B2 [Vi b.size, Vi b.hashes, .slice ab_0 b.set.length cb_0] 24, box B1 [Vi a.size, Vi a.hashes, .slice aa_0 a.set.length ca_0] 24, base w0]) (fun w hw => HeapIs.looseNil tInt hw) ?_
       refine q_heap (H' := [loose tInt (False) (fun _ => False) none 0 ([] : List Int), loose tInt (False) (fun _ => False) none 0 ([] : List Int), loose tInt (False) S65_9 a65_9 c65_9 (Bl.both a.set (Bl.places a s) a.size), loose tInt (False) S60 a62 c63 (Bl.places a s), loose tInt (False) (fun _ => False) none 0 ([] : List Int), loose tInt (False) (fun _ => False) none 0 ([] : List Int), loose tInt (False) (fun _ => False) none 0 ([] : List Int), loose tInt (False) (fun _ => False) none 0 ([] : List Int), box B28 [Vi 0, Vi 0, .slice none 0 0] 24, box B27 [Vi 0, Vi 0, .slice none ([] : List Int).length 0] 24, box B26 [Vi a.size, Vi a.hashes, .slice a65_9 (Bl.both a.set (Bl.places a s) a.size).length c65_9] 24, box B25 [Vi ((Bl.fold a).size), Vi ((Bl.fold a).hashes), .slice a22 ((Bl.fold a).set).length c23] 24, own tInt S20 a22 c23 ((Bl.fold a).set), box B19 [Vi ((Bl.uni a b).size), Vi ((Bl.uni a b).hashes), .slice a16 ((Bl.uni a b).set).length c17] 24, own tInt S14 a16 c17 ((Bl.uni a b).set), box B13 [Vi ((Bl.add a s).size), Vi ((Bl.add a s).hashes), .slice a10 ((Bl.add a s).set).length c11] 24, own tInt S8 a10 c11 ((Bl.add a s).set), own tInt S3 a5 c6 (Bl.bits a s), box B2 [Vi b.size, Vi b.hashes, .slice ab_0 b.set.length cb_0] 24, box B1 [Vi a.size, Vi a.hashes, .slice aa_0 a.set.length ca_0] 24, base w0]) (fun w hw => HeapIs.looseNil tInt hw) ?_
       refine q_join hK33 ((Bl.check a), (Bl.check b), 4, (Bl.places a s), a62, c63, S60, (Ref.sameInts (Bl.both a.set (Bl.places a s) a.size) a.set), (⟨a.size, a.hashes, (Bl.both a.set (Bl.places a s) a.size)⟩ : DFilter), a65_9, c65_9, S65_9, (⟨0, 0, ([] : List Int)⟩ : DFilter), none, 0, (fun _ => False), (⟨0, 0, ([] : List Int)⟩ : DFilter), none, 0, (fun _ => False)) ?_ (sr (sr (sr (sr (sr (sr (sr (sr (sr (sr (sr (sr (sr (sr (sr (sr (sr (sr (sr (sr (Sub.nil _))))))))))))))))))))) (pk [0, 1, 2, 3, 8, 9, 10, 11, 12, 13, 14, 15, 16, 17, 18, 19, 20])
       clear hK33
       refine ⟨?_, ?_, ?_⟩
       ·first | exact Bl.sA0 s hck | exact Bl.sA1 hck (by omega) | exact Bl.sA2 hck (by omega)
       ·first | exact Bl.sB0 b hck | exact Bl.sB1 hck (by omega) | exact Bl.sB2 hck (by omega) (by omega) | exact Bl.sB3 hck (by omega) (by omega)
       ·first | exact Bl.sC0 hck | exact Bl.sC1 hck (by omega) | exact Bl.sC2 hck (by omega)
      ·simp only [beq_eq_false_iff_ne, ne_eq] at hc79
       refine c_held hmix [own tInt S65_9 a65_9 c65_9 (Bl.both a.set (Bl.places a s) a.size), own tInt S60 a62 c63 (Bl.places a s), loose tInt (False) (fun _ => False) none 0 ([] : List Int), loose tInt (False) (fun _ => False) none 0 ([] : List Int), loose tInt (False) (fun _ => False) none 0 ([] : List Int), loose tInt (False) (fun _ => False) none 0 ([] : List Int), box B27 [Vi 0, Vi 0, .slice none 0 0] 24, box B26 [Vi a.size, Vi a.hashes, .slice a65_9 (Bl.both a.set (Bl.places a s) a.size).length c65_9] 24, box B25 [Vi ((Bl.fold a).size), Vi ((Bl.fold a).hashes), .slice a22 ((Bl.fold a).set).length c23] 24, own tInt S20 a22 c23 ((Bl.fold a).set), box B19 [Vi ((Bl.uni a b).size), Vi ((Bl.uni a b).hashes), .slice a16 ((Bl.uni a b).set).length c17] 24, own tInt S14 a16 c17 ((Bl.uni a b).set), box B13 [Vi ((Bl.add a s).size), Vi ((Bl.add a s).hashes), .slice a10 ((Bl.add a s).set).length c11] 24, own tInt S8 a10 c11 ((Bl.add a s).set), own tInt S3 a5 c6 (Bl.bits a s), box B2 [Vi b.size, Vi b.hashes, .slice ab_0 b.set.length cb_0] 24, box B1 [Vi a.size, Vi a.hashes, .slice aa_0 a.set.length ca_0] 24, base w0] rfl rfl ?_
       refine h_tk (i := 0) (ls := #[T1,F0,F0,F0,F0,F0,F0,F0,F0]) rfl (p_fieldAddr (j' := 0) rfl fo24_0 rfl) (dp (lj (lj (lj (lj (lj (lj (lz (lj (lj (lj (lj (lj (lj (lj (lj (lj (lj (lj (lj (ln))))))))))))))))))))) ?_
       refine h_tk (i := 1) (ls := #[T1,T1,F0,F0,F0,F0,F0,F0,F0]) rfl (p_load (i := 16) (v := Vi a.size) rfl rfl sh3 rfl) (dp (lj (lj (lj (lj (lj (lj (lz (lj (lj (lj (lj (lj (lj (lj (lj (lj (lj (lj (lj (ln))))))))))))))))))))) ?_
       refine h_tk (i := 2) (ls := #[T1,T1,T1,F0,F0,F0,F0,F0,F0]) rfl (p_quob (p := a.size) (q := 2) rfl rfl (by decide) (by omega)) (dp (lj (lj (lj (lj (lj (lj (lz (lj (lj (lj (lj (lj (lj (lj (lj (lj (lj (lj (lj (ln))))))))))))))))))))) ?_
       refine h_tk (i := 3) (ls := #[T1,T1,T1,T1,F0,F0,F0,F0,F0]) rfl (p_fieldAddr (j' := 1) rfl fo24_1 rfl) (dp (lj (lj (lj (lj (lj (lj (lz (lj (lj (lj (lj (lj (lj (lj (lj (lj (lj (lj (lj (ln))))))))))))))))))))) ?_
       refine h_tk (i := 4) (ls := #[T1,T1,T1,T1,T1,F0,F0,F0,F0]) rfl (p_load (i := 16) (v := Vi a.hashes) rfl rfl sh3 rfl) (dp (lj (lj (lj (lj (lj (lj (lz (lj (lj (lj (lj (lj (lj (lj (lj (lj (lj (lj (lj (ln))))))))))))))))))))) ?_
       refine h_tk (i := 5) (ls := #[T1,T1,T1,T1,T1,T1,F0,F0,F0]) rfl (p_load_agg (i := 16) (vs := [Vi a.size, Vi a.hashes, .slice aa_0 a.set.length ca_0]) rfl rfl sh24 rfl rfl) (dp (lj (lj (lj (lj (lj (lj (lz (lj (lj (lj (lj (lj (lj (lj (lj (lj (lj (lj (lj (ln))))))))))))))))))))) ?_
       refine h_one (i := 6) (ls := #[T1,T1,T1,T1,T1,T1,T1,F0,F0]) (by kernel_rfl) rfl rfl ?_
       refine o_callM rfl (bloomHalf_ok a aa_0 ca_0 (by first | assumption | omega)) hf19 (fun w hw => (rd_base (i := 18) rfl ha_0) w hw) rfl (fun _ _ _ _ ha hA => SlO.agree ha hA) ?_
       rintro ⟨a82_6, c82_6⟩ S82_6
       refine o_know (fun w hw => own_len (i := 0) (T := tInt) hw rfl) (fun hlr82_6 => ?_)
       refine o_nil ?_
       refine h_next (dp (lz (lj (lj (lj (lj (lj (lj (lz (lj (lj (lj (lj (lj (lj (lj (lj (lj (lj (lj (lj (ln)))))))))))))))))))))) ?_
       refine h_tk (i := 7) (ls := #[T1,T1,T1,T1,T1,T1,T1,T1,F0]) rfl (p_build (cells := [Vi (a.size.tdiv 2), Vi a.hashes, .slice a82_6 (Bl.half a).length c82_6]) fp24 ze24 rfl rfl) (dp (lz (lj (lj (lj (lj (lj (lj (lz (lj (lj (lj (lj (lj (lj (lj (lj (lj (lj (lj (lj (ln)))))))))))))))))))))) ?_
       refine h_one (i := 8) (ls := #[T1,T1,T1,T1,T1,T1,T1,T1,T1]) (by kernel_rfl) rfl rfl ?_
       refine o_storeN (i := 7) (vs := [Vi (a.size.tdiv 2), Vi a.hashes, .slice a82_6 (Bl.half a).length c82_6]) (cs' := [Vi (a.size.tdiv 2), Vi a.hashes, .slice a82_6 (Bl.half a).length c82_6]) rfl rfl rfl sz24 rfl rfl rfl rfl ?_
       refine o_nil ?_
       refine h_next (dp (lz (lj (lj (lj (lj (lj (lj (lz (lj (lj (lj (lj (lj (lj (lj (lj (lj (lj (lj (lj (ln)))))))))))))))))))))) ?_
       refine h_done (by kernel_rfl) ?_
       refine q_heap (H' := [own tInt S82_6 a82_6 c82_6 (Bl.half a), own tInt S65_9 a65_9 c65_9 (Bl.both a.set (Bl.places a s) a.size), loose tInt (False) S60 a62 c63 (Bl.places a s), loose tInt (False) (fun _ => False) none 0 ([] : List Int), loose tInt (False) (fun _ => False) none 0 ([] : List Int), loose tInt (False) (fun _ => False) none 0 ([] : List Int), loose tInt (False) (fun _ => False) none 0 ([] : List Int), box B28 [Vi (a.size.tdiv 2), Vi a.hashes, .slice a82_6 (Bl.half a).length c82_6] 24, box B27 [Vi 0, Vi 0, .slice none 0 0] 24, box B26 [Vi a.size, Vi a.hashes, .slice a65_9 (Bl.both a.set (Bl.places a s) a.size).length c65_9] 24, box B25 [Vi ((Bl.fold a).size), Vi ((Bl.fold a).hashes), .slice a22 ((Bl.fold a).set).length c23] 24, own tInt S20 a22 c23 ((Bl.fold a).set), box B19 [Vi ((Bl.uni a b).size), Vi ((Bl.uni a b).hashes), .slice a16 ((Bl.uni a b).set).length c17] 24, own tInt S14 a16 c17 ((Bl.uni a b).set), box B13 [Vi ((Bl.add a s).size), Vi ((Bl.add a s).hashes), .slice a10 ((Bl.add a s).set).length c11] 24, own tInt S8 a10 c11 ((Bl.add a s).set), own tInt S3 a5 c6 (Bl.bits a s), box B2 [Vi b.size, Vi b.hashes, .slice ab_0 b.set.length cb_0] 24, box B1 [Vi a.size, Vi a.hashes, .slice aa_0 a.set.length ca_0] 24, base w0]) (fun w hw => HeapIs.toLoose (i := 2) (T := tInt) rfl hw) ?_
       refine q_heap (H' := [own tInt S82_6 a82_6 c82_6 (Bl.half a), loose tInt (False) S65_9 a65_9 c65_9 (Bl.both a.set (Bl.places a s) a.size), loose tInt (False) S60 a62 c63 (Bl.places a s), loose tInt (False) (fun _ => False) none 0 ([] : List Int), loose tInt (False) (fun _ => False) none 0 ([] : List Int), loose tInt (False) (fun _ => False) none 0 ([] : List Int), loose tInt (False) (fun _ => False) none 0 ([] : List Int), box B28 [Vi (a.size.tdiv 2), Vi a.hashes, .slice a82_6 (Bl.half a).length c82_6] 24, box B27 [Vi 0, Vi 0, .slice none 0 0] 24, box B26 [Vi a.size, Vi a.hashes, .slice a65_9 (Bl.both a.set (Bl.places a s) a.size).length c65_9] 24, box B25 [Vi ((Bl.fold a).size), Vi ((Bl.fold a).hashes), .slice a22 ((Bl.fold a).set).length c23] 24, own tInt S20 a22 c23 ((Bl.fold a).set), box B19 [Vi ((Bl.uni a b).size), Vi ((Bl.uni a b).hashes), .slice a16 ((Bl.uni a b).set).length c17] 24, own tInt S14 a16 c17 ((Bl.uni a b).set), box B13 [Vi ((Bl.add a s).size), Vi ((Bl.add a s).hashes), .slice a10 ((Bl.add a s).set).length c11] 24, own tInt S8 a10 c11 ((Bl.add a s).set), own tInt S3 a5 c6 (Bl.bits a s), box B2 [Vi b.size, Vi b.hashes, .slice ab_0 b.set.length cb_0] 24, box B1 [Vi a.size, Vi a.hashes, .slice aa_0 a.set.length ca_0] 24, base w0]) (fun w hw => HeapIs.toLoose (i := 1) (T := tInt) rfl hw) ?_
       refine q_heap (H' := [loose tInt (False) (fun _ => False) none 0 ([] : List Int), own tInt S82_6 a82_6 c82_6 (Bl.half a), loose tInt (False) S65_9 a65_9 c65_9 (Bl.both a.set (Bl.places a s) a.size), loose tInt (False) S60 a62 c63 (Bl.places a s), loose tInt (False) (fun _ => False) none 0 ([] : List Int), loose tInt (False) (fun _ => False) none 0 ([] : List Int), loose tInt (False) (fun _ => False) none 0 ([] : List Int), loose tInt (False) (fun _ => False) none 0 ([] : List Int), box B28 [Vi (a.size.tdiv 2), Vi a.hashes, .slice a82_6 (Bl.half a).length c82_6] 24, box B27 [Vi 0, Vi 0, .slice none 0 0] 24, box B26 [Vi a.size, Vi a.hashes, .slice a65_9 (Bl.both a.set (Bl.places a s) a.size).length c65_9] 24, box B25 [Vi ((Bl.fold a).size), Vi ((Bl.fold a).hashes), .slice a22 ((Bl.fold a).set).length c23] 24, own tInt S20 a22 c23 ((Bl.fold a).set), box B19 [Vi ((Bl.uni a b).size), Vi ((Bl.uni a b).hashes), .slice a16 ((Bl.uni a b).set).length c17] 24, own tInt S14 a16 c17 ((Bl.uni a b).set), box B13 [Vi ((Bl.add a s).size), Vi ((Bl.add a s).hashes), .slice a10 ((Bl.add a s).set).length c11] 24, own tInt S8 a10 c11 ((Bl.add a s).set), own tInt S3 a5 c6 (Bl.bits a s), box B2 [Vi b.size, Vi b.hashes, .slice ab_0 b.set.length cb_0] 24, box B1 [Vi a.size, Vi a.hashes, .slice aa_0 a.set.length ca_0] 24, base w0]) (fun w hw => HeapIs.looseNil tInt hw) ?_
       refine q_heap (H' := [loose tInt (False) (fun _ => False) none 0 ([] : List Int), loose tInt (False) S82_6 a82_6 c82_6 (Bl.half a), loose tInt (False) S65_9 a65_9 c65_9 (Bl.both a.set (Bl.places a s) a.size), loose tInt (False) S60 a62 c63 (Bl.places a s), loose tInt (False) (fun _ => False) none 0 ([] : List Int), loose tInt (False) (fun _ => False) none 0 ([] : List Int), loose tInt (False) (fun _ => False) none 0 ([] : List Int), loose tInt (False) (fun _ => False) none 0 ([] : List Int), box B28 [Vi (a.size.tdiv 2), Vi a.hashes, .slice a82_6 (Bl.half a).length c82_6] 24, box B27 [Vi 0, Vi 0, .slice none ([] : List Int).length 0] 24, box B26 [Vi a.size, Vi a.hashes, .slice a65_9 (Bl.both a.set (Bl.places a s) a.size).length c65_9] 24, box B25 [Vi ((Bl.fold a).size), Vi ((Bl.fold a).hashes), .slice a22 ((Bl.fold a).set).length c23] 24, own tInt S20 a22 c23 ((Bl.fold a).set), box B19 [Vi ((Bl.uni a b).size), Vi ((Bl.uni a b).hashes), .slice a16 ((Bl.uni a b).set).length c17] 24, own tInt S14 a16 c17 ((Bl.uni a b).set), box B13 [Vi ((Bl.add a s).size), Vi ((Bl.add a s).hashes), .slice a10 ((Bl.add a s).set).length c11] 24, own tInt S8 a10 c11 ((Bl.add a s).set), own tInt S3 a5 c6 (Bl.bits a s), box B2 [Vi b.size, Vi b.hashes, .slice ab_0 b.set.length cb_0] 24, box B1 [Vi a.size, Vi a.hashes, .slice aa_0 a.set.length ca_0] 24, base w0]) (fun w hw => HeapIs.toLoose (i := 1) (T := tInt) rfl hw) ?_
       refine q_join hK33 ((Bl.check a), (Bl.check b), (Bl.check a), (Bl.places a s), a62, c63, S60, (Ref.sameInts (Bl.both a.set (Bl.places a s) a.size) a.set), (⟨a.size, a.hashes, (Bl.both a.set (Bl.places a s) a.size)⟩ : DFilter), a65_9, c65_9, S65_9, (⟨0, 0, ([] : List Int)⟩ : DFilter), none, 0, (fun _ => False), (⟨(a.size.tdiv 2), a.hashes, (Bl.half a)⟩ : DFilter), a82_6, c82_6, S82_6) ?_ (sr (sr (sr (sr (sr (sr (sr (sr (sr (sr (sr (sr (sr (sr (sr (sr (sr (sr (sr (sr (Sub.nil _))))))))))))))))))))) (pk [1, 0, 2, 3, 8, 9, 10, 11, 12, 13, 14, 15, 16, 17, 18, 19, 20])
       clear hK33
       refine ⟨?_, ?_, ?_⟩
       ·first | exact Bl.sA0 s hck | exact Bl.sA1 hck (by omega) | exact Bl.sA2 hck (by omega)
       ·first | exact Bl.sB0 b hck | exact Bl.sB1 hck (by omega) | exact Bl.sB2 hck (by omega) (by omega) | exact Bl.sB3 hck (by omega) (by omega)
       ·first | exact Bl.sC0 hck | exact Bl.sC1 hck (by omega) | exact Bl.sC2 hck (by omega)
  ·simp only [beq_eq_false_iff_ne, ne_eq] at hc34
   have hck := hc34
   refine c_skip ?_
   refine q_heap (H' := [loose tInt (False) (fun _ => False) none 0 ([] : List Int), loose tInt (False) (fun _ => False) none 0 ([] : List Int), loose tInt (False) (fun _ => False) none 0 ([] : List Int), loose tInt (False) (fun _ => False) none 0 ([] : List Int), loose tInt (False) (fun _ => False) none 0 ([] : List Int), box B28 [Vi 0, Vi 0, .slice none 0 0] 24, box B27 [Vi 0, Vi 0, .slice none 0 0] 24, box B26 [Vi 0, Vi 0, .slice none 0 0] 24, box B25 [Vi ((Bl.fold a).size), Vi ((Bl.fold a).hashes), .slice a22 ((Bl.fold a).set).length c23] 24, own tInt S20 a22 c23 ((Bl.fold a).set), box B19 [Vi ((Bl.uni a b).size), Vi ((Bl.uni a b).hashes), .slice a16 ((Bl.uni a b).set).length c17] 24, own tInt S14 a16 c17 ((Bl.uni a b).set), box B13 [Vi ((Bl.add a s).size), Vi ((Bl.add a s).hashes), .slice a10 ((Bl.add a s).set).length c11] 24, own tInt S8 a10 c11 ((Bl.add a s).set), own tInt S3 a5 c6 (Bl.bits a s), box B2 [Vi b.size, Vi b.hashes, .slice ab_0 b.set.length cb_0] 24, box B1 [Vi a.size, Vi a.hashes, .slice aa_0 a.set.length ca_0] 24, base w0]) (fun w hw => HeapIs.looseNil tInt hw) ?_
   refine q_heap (H' := [loose tInt (False) (fun _ => False) none 0 ([] : List Int), loose tInt (False) (fun _ => False) none 0 ([] : List Int), loose tInt (False) (fun _ => False) none 0 ([] : List Int), loose tInt (False) (fun _ => False) none 0 ([] : List Int), loose tInt (False) (fun _ => False) none 0 ([] : List Int), loose tInt (False) (fun _ => False) none 0 ([] : List Int), box B28 [Vi 0, Vi 0, .slice none 0 0] 24, box B27 [Vi 0, Vi 0, .slice none 0 0] 24, box B26 [Vi 0, Vi 0, .slice none ([] : List Int).length 0] 24, box B25 [Vi ((Bl.fold a).size), Vi ((Bl.fold a).hashes), .slice a22 ((Bl.fold a).set).length c23] 24, own tInt S20 a22 c23 ((Bl.fold a).set), box B19 [Vi ((Bl.uni a b).size), Vi ((Bl.uni a b).hashes), .slice a16 ((Bl.uni a b).set).length c17] 24, own tInt S14 a16 c17 ((Bl.uni a b).set), box B13 [Vi ((Bl.add a s).size), Vi ((Bl.add a s).hashes), .slice a10 ((Bl.add a s).set).length c11] 24, own tInt S8 a10 c11 ((Bl.add a s).set), own tInt S3 a5 c6 (Bl.bits a s), box B2 [Vi b.size, Vi b.hashes, .slice ab_0 b.set.length cb_0] 24, box B1 [Vi a.size, Vi a.hashes, .slice aa_0 a.set.length ca_0] 24, base w0]) (fun w hw => HeapIs.looseNil tInt hw) ?_
   refine q_heap (H' := [loose tInt (False) (fun _ => False) none 0 ([] : List Int), loose tInt (False) (fun _ => False) none 0 ([] : List Int), loose tInt (False) (fun _ => False) none 0 ([] : List Int), loose tInt (False) (fun _ => False) none 0 ([] : List Int), loose tInt (False) (fun _ => False) none 0 ([] : List Int), loose tInt (False) (fun _ => False) none 0 ([] : List Int), loose tInt (False) (fun _ => False) none 0 ([] : List Int), box B28 [Vi 0, Vi 0, .slice none 0 0] 24, box B27 [Vi 0, Vi 0, .slice none ([] : List Int).length 0] 24, box B26 [Vi 0, Vi 0, .slice none ([] : List Int).length 0] 24, box B25 [Vi ((Bl.fold a).size), Vi ((Bl.fold a).hashes), .slice a22 ((Bl.fold a).set).length c23] 24, own tInt S20 a22 c23 ((Bl.fold a).set), box B19 [Vi ((Bl.uni a b).size), Vi ((Bl.uni a b).hashes), .slice a16 ((Bl.uni a b).set).length c17] 24, own tInt S14 a16 c17 ((Bl.uni a b).set), box B13 [Vi ((Bl.add a s).size), Vi ((Bl.add a s).hashes), .slice a10 ((Bl.add a s).set).length c11] 24, own tInt S8 a10 c11 ((Bl.add a s).set), own tInt S3 a5 c6 (Bl.bits a s), box B2 [Vi b.size, Vi b.hashes, .slice ab_0 b.set.length cb_0] 24, box B1 [Vi a.size, Vi a.hashes, .slice aa_0 a.set.length ca_0] 24, base w0]) (fun w hw => HeapIs.looseNil tInt hw) ?_
   refine q_join hK33 ((Bl.check a), (Bl.check a), (Bl.check a), ([] : List Int), none, 0, (fun _ => False), false, (⟨0, 0, ([] : List Int)⟩ : DFilter), none, 0, (fun _ => False), (⟨0, 0, ([] : List Int)⟩ : DFilter), none, 0, (fun _ => False), (⟨0, 0, ([] : List Int)⟩ : DFilter), none, 0, (fun _ => False)) ?_ (sr (sr (sr (sr (sr (sr (sr (sr (sr (sr (sr (sr (sr (sr (sr (sr (sr (sr (sr (sr (Sub.nil _))))))))))))))))))))) (pk [0, 1, 2, 6, 7, 8, 9, 10, 11, 12, 13, 14, 15, 16, 17, 18, 19])
   clear hK33
   refine ⟨?_, ?_, ?_⟩
   ·first | exact Bl.sA0 s hck | exact Bl.sA1 hck (by omega) | exact Bl.sA2 hck (by omega)
   ·first | exact Bl.sB0 b hck | exact Bl.sB1 hck (by omega) | exact Bl.sB2 hck (by omega) (by omega) | exact Bl.sB3 hck (by omega) (by omega)
   ·first | exact Bl.sC0 hck | exact Bl.sC1 hck (by omega) | exact Bl.sC2 hck (by omega)
 rintro ⟨v, o, q, places, aplaces, cplaces, Splaces, may, ad, aad_0, cad_0, Sad_0, bo, abo_0, cbo_0, Sbo_0, ha, aha_0, cha_0, Sha_0⟩ hj1
 show SQ _ 185 w0 _ _ [(3, .pointer (some ⟨B1, 0, none⟩)), (7, .slice a5 (Bl.bits a s).length c6), (8, Vi (Bl.keyErr a s)), (9, .pointer (some ⟨B13, 0, none⟩)), (10, Vi (Bl.keyErr a s)), (11, .bool (Bl.may a s)), (12, Vi (Bl.keyErr a s)), (13, .pointer (some ⟨B19, 0, none⟩)), (14, Vi (Bl.uniErr a b)), (15, .pointer (some ⟨B25, 0, none⟩)), (16, Vi (Bl.foldErr a)), (17, Vi (Bl.check a)), (18, Vi v), (19, Vi o), (20, Vi q), (21, .slice aplaces places.length cplaces), (22, .pointer (some ⟨B26, 0, none⟩)), (23, .pointer (some ⟨B27, 0, none⟩)), (24, .pointer (some ⟨B28, 0, none⟩)), (25, .bool may)] [loose tInt (False) Sha_0 aha_0 cha_0 ha.set, loose tInt (False) Sbo_0 abo_0 cbo_0 bo.set, loose tInt (False) Sad_0 aad_0 cad_0 ad.set, loose tInt (False) Splaces aplaces cplaces places, box B28 [Vi ha.size, Vi ha.hashes, .slice aha_0 ha.set.length cha_0] 24, box B27 [Vi bo.size, Vi bo.hashes, .slice abo_0 bo.set.length cbo_0] 24, box B26 [Vi ad.size, Vi ad.hashes, .slice aad_0 ad.set.length cad_0] 24, box B25 [Vi ((Bl.fold a).size), Vi ((Bl.fold a).hashes), .slice a22 ((Bl.fold a).set).length c23] 24, own tInt S20 a22 c23 ((Bl.fold a).set), box B19 [Vi ((Bl.uni a b).size), Vi ((Bl.uni a b).hashes), .slice a16 ((Bl.uni a b).set).length c17] 24, own tInt S14 a16 c17 ((Bl.uni a b).set), box B13 [Vi ((Bl.add a s).size), Vi ((Bl.add a s).hashes), .slice a10 ((Bl.add a s).set).length c11] 24, own tInt S8 a10 c11 ((Bl.add a s).set), own tInt S3 a5 c6 (Bl.bits a s), box B2 [Vi b.size, Vi b.hashes, .slice ab_0 b.set.length cb_0] 24, box B1 [Vi a.size, Vi a.hashes, .slice aa_0 a.set.length ca_0] 24, base w0]
 refine q_then (c_seq (c_region ?_))
 refine o_call0 (v := .bool true) rfl (bloomBegun_ok ) hf20 (fun _ _ => trivial) rfl ?_
 refine o_mv rfl rfl ?_
 refine o_unguard 129 rfl rfl ?_
 refine o_p (p_load_agg (i := 15) (vs := [Vi a.size, Vi a.hashes, .slice aa_0 a.set.length ca_0]) rfl rfl sh24 rfl rfl) ?_
 refine o_unguard 129 rfl rfl ?_
 refine o_call0 (v := Vi (Bl.check a)) rfl (bcheck_ok a aa_0 ca_0) hf21 (fun w hw => (rd_base (i := 16) rfl ha_0) w hw) rfl ?_
 refine o_unguard 129 rfl rfl ?_
 refine o_mv rfl rfl ?_
 refine o_unguard 129 rfl rfl ?_
 refine o_p (p_eq rfl rfl) ?_
 refine o_pt rfl rfl rfl ?_
 refine o_mv rfl rfl ?_
 refine o_and (p := 139) 4 (Ref.sameInts (Bl.bits a s) places) ?_ ?_ ?_
 ·intro hb87 hk
  simp only [beq_iff_eq] at hb87
  refine o_unguard 135 rfl rfl ?_
  refine o_mv rfl rfl ?_
  refine o_unguard 135 rfl rfl ?_
  refine o_mv rfl rfl ?_
  refine o_unguard 135 rfl rfl ?_
  refine o_call0 (v := .bool (Ref.sameInts (Bl.bits a s) places)) rfl (sameInts_ok (Bl.bits a s) a5 c6 places aplaces cplaces) hf18 (fun w hw => ⟨(rd_own (i := 13) rfl) w hw, (rd_loose (i := 3) rfl (fun hφ => hφ.elim)) w hw⟩) rfl ?_
  refine o_pt rfl rfl rfl ?_
  exact o_sub (sr (Sub.skip rfl (Sub.skip rfl (Sub.skip rfl (Sub.skip rfl (Sub.skip rfl (Sub.refl _))))))) hk
 ·intro hb87 hk
  refine o_guard_no rfl 135 rfl rfl rfl rfl rfl ?_
  refine o_guard_no rfl 135 rfl rfl rfl rfl rfl ?_
  refine o_guard_no rfl 135 rfl rfl rfl rfl rfl ?_
  refine o_pf rfl rfl rfl ?_
  exact o_sub (sr (Sub.skip rfl (Sub.skip rfl (Sub.skip rfl (Sub.skip rfl (Sub.skip rfl (Sub.refl _))))))) hk
 refine o_mv rfl rfl ?_
 refine o_and (p := 144) 4 ((Bl.keyErr a s) == v) ?_ ?_ ?_
 ·intro hb88 hk
  simp only [Bool.and_eq_true, beq_iff_eq] at hb88
  refine o_unguard 140 rfl rfl ?_
  refine o_mv rfl rfl ?_
  refine o_unguard 140 rfl rfl ?_
  refine o_mv rfl rfl ?_
  refine o_unguard 140 rfl rfl ?_
  refine o_p (p_eq rfl rfl) ?_
  refine o_pt rfl rfl rfl ?_
  exact o_sub (sr (Sub.skip rfl (Sub.skip rfl (Sub.skip rfl (Sub.skip rfl (Sub.skip rfl (Sub.refl _))))))) hk
 ·intro hb88 hk
  refine o_guard_no rfl 140 rfl rfl rfl rfl rfl ?_
  refine o_guard_no rfl 140 rfl rfl rfl rfl rfl ?_
  refine o_guard_no rfl 140 rfl rfl rfl rfl rfl ?_
  refine o_pf rfl rfl rfl ?_
  exact o_sub (sr (Sub.skip rfl (Sub.skip rfl (Sub.skip rfl (Sub.skip rfl (Sub.skip rfl (Sub.refl _))))))) hk
 refine o_mv rfl rfl ?_
 refine o_and (p := 149) 4 (decide ((Bl.add a s) = ad)) ?_ ?_ ?_
 ·intro hb89 hk
  simp only [Bool.and_eq_true, beq_iff_eq] at hb89
  refine o_unguard 145 rfl rfl ?_
  refine o_p (p_load_agg (i := 11) (vs := [Vi ((Bl.add a s).size), Vi ((Bl.add a s).hashes), .slice a10 ((Bl.add a s).set).length c11]) rfl rfl sh24 rfl rfl) ?_
  refine o_unguard 145 rfl rfl ?_
  refine o_p (p_load_agg (i := 6) (vs := [Vi ad.size, Vi ad.hashes, .slice aad_0 ad.set.length cad_0]) rfl rfl sh24 rfl rfl) ?_
  refine o_unguard 145 rfl rfl ?_
  refine o_call0 (v := .bool (decide ((Bl.add a s) = ad))) rfl (sameFilter_ok (Bl.add a s) a10 c11 ad aad_0 cad_0) hf22 (fun w hw => ⟨(rd_own (i := 12) rfl) w hw, (rd_loose (i := 2) rfl (fun hφ => hφ.elim)) w hw⟩) rfl ?_
  refine o_pt rfl rfl rfl ?_
  exact o_sub (sr (Sub.skip rfl (Sub.skip rfl (Sub.skip rfl (Sub.skip rfl (Sub.skip rfl (Sub.refl _))))))) hk
 ·intro hb89 hk
  refine o_guard_no rfl 145 rfl rfl rfl rfl rfl ?_
  refine o_guard_no rfl 145 rfl rfl rfl rfl rfl ?_
  refine o_guard_no rfl 145 rfl rfl rfl rfl rfl ?_
  refine o_pf rfl rfl rfl ?_
  exact o_sub (sr (Sub.skip rfl (Sub.skip rfl (Sub.skip rfl (Sub.skip rfl (Sub.skip rfl (Sub.refl _))))))) hk
 refine o_mv rfl rfl ?_
 refine o_and (p := 154) 4 ((Bl.keyErr a s) == v) ?_ ?_ ?_
 ·intro hb90 hk
  simp only [Bool.and_eq_true, beq_iff_eq, decide_eq_true_eq] at hb90
  refine o_unguard 150 rfl rfl ?_
  refine o_mv rfl rfl ?_
  refine o_unguard 150 rfl rfl ?_
  refine o_mv rfl rfl ?_
  refine o_unguard 150 rfl rfl ?_
  refine o_p (p_eq rfl rfl) ?_
  refine o_pt rfl rfl rfl ?_
  exact o_sub (sr (Sub.skip rfl (Sub.skip rfl (Sub.skip rfl (Sub.skip rfl (Sub.skip rfl (Sub.refl _))))))) hk
 ·intro hb90 hk
  refine o_guard_no rfl 150 rfl rfl rfl rfl rfl ?_
  refine o_guard_no rfl 150 rfl rfl rfl rfl rfl ?_
  refine o_guard_no rfl 150 rfl rfl rfl rfl rfl ?_
  refine o_pf rfl rfl rfl ?_
  exact o_sub (sr (Sub.skip rfl (Sub.skip rfl (Sub.skip rfl (Sub.skip rfl (Sub.skip rfl (Sub.refl _))))))) hk
 refine o_mv rfl rfl ?_
 refine o_and (p := 159) 4 ((Bl.may a s) == may) ?_ ?_ ?_
 ·intro hb91 hk
  simp only [Bool.and_eq_true, beq_iff_eq, decide_eq_true_eq] at hb91
  refine o_unguard 155 rfl rfl ?_
  refine o_mv rfl rfl ?_
  refine o_unguard 155 rfl rfl ?_
  refine o_mv rfl rfl ?_
  refine o_unguard 155 rfl rfl ?_
  refine o_p (p_eqBool (b := (Bl.may a s)) (c := may) rfl rfl Try.underlying4) ?_
  refine o_pt rfl rfl rfl ?_
  exact o_sub (sr (Sub.skip rfl (Sub.skip rfl (Sub.skip rfl (Sub.skip rfl (Sub.skip rfl (Sub.refl _))))))) hk
 ·intro hb91 hk
  refine o_guard_no rfl 155 rfl rfl rfl rfl rfl ?_
  refine o_guard_no rfl 155 rfl rfl rfl rfl rfl ?_
  refine o_guard_no rfl 155 rfl rfl rfl rfl rfl ?_
  refine o_pf rfl rfl rfl ?_
  exact o_sub (sr (Sub.skip rfl (Sub.skip rfl (Sub.skip rfl (Sub.skip rfl (Sub.skip rfl (Sub.refl _))))))) hk
 refine o_mv rfl rfl ?_
 refine o_and (p := 164) 4 ((Bl.keyErr a s) == v) ?_ ?_ ?_
 ·intro hb92 hk
  simp only [Bool.and_eq_true, beq_iff_eq, decide_eq_true_eq] at hb92
  refine o_unguard 160 rfl rfl ?_
  refine o_mv rfl rfl ?_
  refine o_unguard 160 rfl rfl ?_
  refine o_mv rfl rfl ?_
  refine o_unguard 160 rfl rfl ?_
  refine o_p (p_eq rfl rfl) ?_
  refine o_pt rfl rfl rfl ?_
  exact o_sub (sr (Sub.skip rfl (Sub.skip rfl (Sub.skip rfl (Sub.skip rfl (Sub.skip rfl (Sub.refl _))))))) hk
 ·intro hb92 hk
  refine o_guard_no rfl 160 rfl rfl rfl rfl rfl ?_
  refine o_guard_no rfl 160 rfl rfl rfl rfl rfl ?_
  refine o_guard_no rfl 160 rfl rfl rfl rfl rfl ?_
  refine o_pf rfl rfl rfl ?_
  exact o_sub (sr (Sub.skip rfl (Sub.skip rfl (Sub.skip rfl (Sub.skip rfl (Sub.skip rfl (Sub.refl _))))))) hk
 refine o_mv rfl rfl ?_
 refine o_and (p := 169) 4 (decide ((Bl.uni a b) = bo)) ?_ ?_ ?_
 ·intro hb93 hk
  simp only [Bool.and_eq_true, beq_iff_eq, decide_eq_true_eq] at hb93
  refine o_unguard 165 rfl rfl ?_
  refine o_p (p_load_agg (i := 9) (vs := [Vi ((Bl.uni a b).size), Vi ((Bl.uni a b).hashes), .slice a16 ((Bl.uni a b).set).length c17]) rfl rfl sh24 rfl rfl) ?_
  refine o_unguard 165 rfl rfl ?_
  refine o_p (p_load_agg (i := 5) (vs := [Vi bo.size, Vi bo.hashes, .slice abo_0 bo.set.length cbo_0]) rfl rfl sh24 rfl rfl) ?_
  refine o_unguard 165 rfl rfl ?_
  refine o_call0 (v := .bool (decide ((Bl.uni a b) = bo))) rfl (sameFilter_ok (Bl.uni a b) a16 c17 bo abo_0 cbo_0) hf22 (fun w hw => ⟨(rd_own (i := 10) rfl) w hw, (rd_loose (i := 1) rfl (fun hφ => hφ.elim)) w hw⟩) rfl ?_
  refine o_pt rfl rfl rfl ?_
  exact o_sub (sr (Sub.skip rfl (Sub.skip rfl (Sub.skip rfl (Sub.skip rfl (Sub.skip rfl (Sub.refl _))))))) hk
 ·intro hb93 hk
  refine o_guard_no rfl 165 rfl rfl rfl rfl rfl ?_
  refine o_guard_no rfl 165 rfl rfl rfl rfl rfl ?_
  refine o_guard_no rfl 165 rfl rfl rfl rfl rfl ?_
  refine o_pf rfl rfl rfl ?_
  exact o_sub (sr (Sub.skip rfl (Sub.skip rfl (Sub.skip rfl (Sub.skip rfl (Sub.skip rfl (Sub.refl _))))))) hk
 refine o_mv rfl rfl ?_
 refine o_and (p := 174) 4 ((Bl.uniErr a b) == o) ?_ ?_ ?_
 ·intro hb94 hk
  simp only [Bool.and_eq_true, beq_iff_eq, decide_eq_true_eq] at hb94
  refine o_unguard 170 rfl rfl ?_
  refine o_mv rfl rfl ?_
  refine o_unguard 170 rfl rfl ?_
  refine o_mv rfl rfl ?_
  refine o_unguard 170 rfl rfl ?_
  refine o_p (p_eq rfl rfl) ?_
  refine o_pt rfl rfl rfl ?_
  exact o_sub (sr (Sub.skip rfl (Sub.skip rfl (Sub.skip rfl (Sub.skip rfl (Sub.skip rfl (Sub.refl _))))))) hk
 ·intro hb94 hk
  refine o_guard_no rfl 170 rfl rfl rfl rfl rfl ?_
  refine o_guard_no rfl 170 rfl rfl rfl rfl rfl ?_
  refine o_guard_no rfl 170 rfl rfl rfl rfl rfl ?_
  refine o_pf rfl rfl rfl ?_
  exact o_sub (sr (Sub.skip rfl (Sub.skip rfl (Sub.skip rfl (Sub.skip rfl (Sub.skip rfl (Sub.refl _))))))) hk
 refine o_mv rfl rfl ?_
 refine o_and (p := 179) 4 (decide ((Bl.fold a) = ha)) ?_ ?_ ?_
 ·intro hb95 hk
  simp only [Bool.and_eq_true, beq_iff_eq, decide_eq_true_eq] at hb95
  refine o_unguard 175 rfl rfl ?_
  refine o_p (p_load_agg (i := 7) (vs := [Vi ((Bl.fold a).size), Vi ((Bl.fold a).hashes), .slice a22 ((Bl.fold a).set).length c23]) rfl rfl sh24 rfl rfl) ?_
  refine o_unguard 175 rfl rfl ?_
  refine o_p (p_load_agg (i := 4) (vs := [Vi ha.size, Vi ha.hashes, .slice aha_0 ha.set.length cha_0]) rfl rfl sh24 rfl rfl) ?_
  refine o_unguard 175 rfl rfl ?_
  refine o_call0 (v := .bool (decide ((Bl.fold a) = ha))) rfl (sameFilter_ok (Bl.fold a) a22 c23 ha aha_0 cha_0) hf22 (fun w hw => ⟨(rd_own (i := 8) rfl) w hw, (rd_loose (i := 0) rfl (fun hφ => hφ.elim)) w hw⟩) rfl ?_
  refine o_pt rfl rfl rfl ?_
  exact o_sub (sr (Sub.skip rfl (Sub.skip rfl (Sub.skip rfl (Sub.skip rfl (Sub.skip rfl (Sub.refl _))))))) hk
 ·intro hb95 hk
  refine o_guard_no rfl 175 rfl rfl rfl rfl rfl ?_
  refine o_guard_no rfl 175 rfl rfl rfl rfl rfl ?_
  refine o_guard_no rfl 175 rfl rfl rfl rfl rfl ?_
  refine o_pf rfl rfl rfl ?_
  exact o_sub (sr (Sub.skip rfl (Sub.skip rfl (Sub.skip rfl (Sub.skip rfl (Sub.skip rfl (Sub.refl _))))))) hk
 refine o_mv rfl rfl ?_
 refine o_and (p := 184) 4 ((Bl.foldErr a) == q) ?_ ?_ ?_
 ·intro hb96 hk
  simp only [Bool.and_eq_true, beq_iff_eq, decide_eq_true_eq] at hb96
  refine o_unguard 180 rfl rfl ?_
  refine o_mv rfl rfl ?_
  refine o_unguard 180 rfl rfl ?_
  refine o_mv rfl rfl ?_
  refine o_unguard 180 rfl rfl ?_
  refine o_p (p_eq rfl rfl) ?_
  refine o_pt rfl rfl rfl ?_
  exact o_sub (sr (Sub.skip rfl (Sub.skip rfl (Sub.skip rfl (Sub.skip rfl (Sub.skip rfl (Sub.refl _))))))) hk
 ·intro hb96 hk
  refine o_guard_no rfl 180 rfl rfl rfl rfl rfl ?_
  refine o_guard_no rfl 180 rfl rfl rfl rfl rfl ?_
  refine o_guard_no rfl 180 rfl rfl rfl rfl rfl ?_
  refine o_pf rfl rfl rfl ?_
  exact o_sub (sr (Sub.skip rfl (Sub.skip rfl (Sub.skip rfl (Sub.skip rfl (Sub.skip rfl (Sub.refl _))))))) hk
 refine o_as rfl rfl ?_
 refine o_nil (q_then (c_ret ?_))
 have hr0 : (((((((((((((Bl.check a) == (Bl.check a)) && (Ref.sameInts (Bl.bits a s) places)) && ((Bl.keyErr a s) == v)) && (decide ((Bl.add a s) = ad))) && ((Bl.keyErr a s) == v)) && ((Bl.may a s) == may)) && ((Bl.keyErr a s) == v)) && (decide ((Bl.uni a b) = bo))) && ((Bl.uniErr a b) == o)) && (decide ((Bl.fold a) = ha))) && ((Bl.foldErr a) == q)) : Bool) = true := by
  obtain ⟨⟨rfl, rfl, rfl, rfl⟩, ⟨rfl, rfl⟩, rfl, rfl⟩ := hj1; simp [Ref.sameInts]
 refine q_end0 (v := .bool ((((((((((((Bl.check a) == (Bl.check a)) && (Ref.sameInts (Bl.bits a s) places)) && ((Bl.keyErr a s) == v)) && (decide ((Bl.add a s) = ad))) && ((Bl.keyErr a s) == v)) && ((Bl.may a s) == may)) && ((Bl.keyErr a s) == v)) && (decide ((Bl.uni a b) = bo))) && ((Bl.uniErr a b) == o)) && (decide ((Bl.fold a) = ha))) && ((Bl.foldErr a) == q))) (rt1 rfl (r_tmp rfl)) (i := 16) rfl ?_
 exact (by have hcc := congrArg (fun (y0 : Bool) => (.bool y0 : Value)) hr0; exact hcc)
end Go.Proofs.Ytfncgfcehkalnaa
