/- The walks, printed by a program from the translation and a specification. -/
import Derived.Test.YtnmbkopnopaigaaSkF
import Derived.Test.YtnmbkopnopaigaaSkLaw
import Derived.Test.YtnmbkopnopaigaaSkW5
import Derived.Test.YtnmbkopnopaigaaSkLaw5
namespace Go.Proofs.Ytnmbkopnopaigaa
open Go.Sx Go.RowKit
set_option maxHeartbeats 8000000 in
set_option maxRecDepth 100000 in
theorem sketchSpec_ok (a : DSketch) (aa_0 : Option Addr) (ca_0 : NC) (b : DSketch) (ab_0 : Option Addr) (cb_0 : NC) (key : ByteArray) (many : Int) : Fn0 Try.prog 3 [.agg #[Vi a.wide, .slice aa_0 a.counts.length ca_0.n], .agg #[Vi b.wide, .slice ab_0 b.counts.length cb_0.n], .string key, Vi many] (fun w => RdN tInt w aa_0 ca_0 a.counts ∧ RdN tInt w ab_0 cb_0 b.counts) (.bool true) := by
 refine fn0 (nt := 290) (F0 := [(0, .agg #[Vi a.wide, .slice aa_0 a.counts.length ca_0.n]), (1, .agg #[Vi b.wide, .slice ab_0 b.counts.length cb_0.n]), (2, .string key), (3, Vi many)]) Try.func3 rfl Try.ntmps3 rfl rfl (fun w0 hpre => ?_)
 obtain ⟨ha_0, hb_0⟩ := hpre
 have hlha_0 := ha_0.2.1
 have hlhb_0 := hb_0.2.1
 refine c_seq (c_region ?_)
 refine o_box (v := .agg #[Vi a.wide, .slice aa_0 a.counts.length ca_0.n]) rfl rfl (fun B1 => ?_)
 refine o_box (v := .agg #[Vi b.wide, .slice ab_0 b.counts.length cb_0.n]) rfl rfl (fun B2 => ?_)
 refine o_as rfl rfl ?_
 refine o_nil (q_then (c_seq (c_region ?_)))
 refine o_p (p_load_agg (i := 1) (vs := [Vi a.wide, .slice aa_0 a.counts.length ca_0.n]) rfl rfl sh24 rfl rfl) ?_
 refine o_mv rfl rfl ?_
 refine o_mv rfl rfl ?_
 refine o_callM rfl (sadd_ok a aa_0 ca_0 key many) hf13 (fun w hw => (rd_baseN (i := 2) rfl ha_0) w hw) rfl (fun _ _ _ _ ha hA => SlON.agree ha hA) ?_
 rintro ⟨a5, c6⟩ S3
 refine o_know (fun w hw => own_lenN (i := 0) (T := tInt) hw rfl) (fun hlr7 => ?_)
 refine o_mv rfl rfl ?_
 refine o_ex rfl rfl rfl ?_
 refine o_ex rfl rfl rfl ?_
 refine o_alloc ze24 rfl (fun B8 => ?_)
 refine o_storeN (i := 0) (vs := [Vi ((Sk.add a key many).wide), .slice a5 ((Sk.add a key many).counts).length c6.n]) (cs' := [Vi ((Sk.add a key many).wide), .slice a5 ((Sk.add a key many).counts).length c6.n]) rfl rfl rfl sz24 rfl rfl rfl rfl ?_
 refine o_as rfl rfl ?_
 refine o_nil (q_then (c_seq (c_region ?_)))
 refine o_p (p_load_agg (i := 3) (vs := [Vi a.wide, .slice aa_0 a.counts.length ca_0.n]) rfl rfl sh24 rfl rfl) ?_
 refine o_mv rfl rfl ?_
 refine o_call0 (v := .tuple #[Vi (Sk.est a key), Vi (Sk.keyErr a key)]) rfl (sest_ok a aa_0 ca_0 key) hf14 (fun w hw => (rd_baseN (i := 4) rfl ha_0) w hw) rfl ?_
 refine o_mv rfl rfl ?_
 refine o_ex rfl rfl rfl ?_
 refine o_ex rfl rfl rfl ?_
 refine o_as rfl rfl ?_
 refine o_as rfl rfl ?_
 refine o_nil (q_then (c_seq (c_region ?_)))
 refine o_p (p_load_agg (i := 3) (vs := [Vi a.wide, .slice aa_0 a.counts.length ca_0.n]) rfl rfl sh24 rfl rfl) ?_
 refine o_p (p_load_agg (i := 2) (vs := [Vi b.wide, .slice ab_0 b.counts.length cb_0.n]) rfl rfl sh24 rfl rfl) ?_
 refine o_callM rfl (smerge_ok a aa_0 ca_0 b ab_0 cb_0) hf15 (fun w hw => ⟨(rd_baseN (i := 4) rfl ha_0) w hw, (rd_baseN (i := 4) rfl hb_0) w hw⟩) rfl (fun _ _ _ _ ha hA => SlON.agree ha hA) ?_
 rintro ⟨a11, c12⟩ S9
 refine o_know (fun w hw => own_lenN (i := 0) (T := tInt) hw rfl) (fun hlr13 => ?_)
 refine o_mv rfl rfl ?_
 refine o_ex rfl rfl rfl ?_
 refine o_ex rfl rfl rfl ?_
 refine o_alloc ze24 rfl (fun B14 => ?_)
 refine o_storeN (i := 0) (vs := [Vi ((Sk.merge a b).wide), .slice a11 ((Sk.merge a b).counts).length c12.n]) (cs' := [Vi ((Sk.merge a b).wide), .slice a11 ((Sk.merge a b).counts).length c12.n]) rfl rfl rfl sz24 rfl rfl rfl rfl ?_
 refine o_as rfl rfl ?_
 refine o_nil (q_then (c_seq (c_region ?_)))
 refine o_p (p_load_agg (i := 5) (vs := [Vi a.wide, .slice aa_0 a.counts.length ca_0.n]) rfl rfl sh24 rfl rfl) ?_
 refine o_callM rfl (shalve_ok a aa_0 ca_0) hf16 (fun w hw => (rd_baseN (i := 6) rfl ha_0) w hw) rfl (fun _ _ _ _ ha hA => SlON.agree ha hA) ?_
 rintro ⟨a17, c18⟩ S15
 refine o_know (fun w hw => own_lenN (i := 0) (T := tInt) hw rfl) (fun hlr19 => ?_)
 refine o_mv rfl rfl ?_
 refine o_ex rfl rfl rfl ?_
 refine o_ex rfl rfl rfl ?_
 refine o_alloc ze24 rfl (fun B20 => ?_)
 refine o_storeN (i := 0) (vs := [Vi ((Sk.halve a).wide), .slice a17 ((Sk.halve a).counts).length c18.n]) (cs' := [Vi ((Sk.halve a).wide), .slice a17 ((Sk.halve a).counts).length c18.n]) rfl rfl rfl sz24 rfl rfl rfl rfl ?_
 refine o_as rfl rfl ?_
 refine o_nil (q_then (c_seq (c_region ?_)))
 refine o_p (p_load_agg (i := 7) (vs := [Vi a.wide, .slice aa_0 a.counts.length ca_0.n]) rfl rfl sh24 rfl rfl) ?_
 refine o_call0 (v := .tuple #[Vi (Sk.total a), Vi (Sk.check a)]) rfl (stotal_ok a aa_0 ca_0) hf17 (fun w hw => (rd_baseN (i := 8) rfl ha_0) w hw) rfl ?_
 refine o_mv rfl rfl ?_
 refine o_ex rfl rfl rfl ?_
 refine o_ex rfl rfl rfl ?_
 refine o_as rfl rfl ?_
 refine o_as rfl rfl ?_
 refine o_nil (q_then (c_seq ?_))
 refine c_draw hmix (by kernel_rfl) ?_
 refine w_p (p_load_agg (i := 7) (vs := [Vi a.wide, .slice aa_0 a.counts.length ca_0.n]) rfl rfl sh24 rfl rfl) ?_
 refine w_call0 (v := Vi (Sk.check a)) rfl (sketchCheck_ok a aa_0 ca_0) hf18 (fun w hw => (rd_baseN (i := 8) rfl ha_0) w hw) rfl ?_
 refine w_p (p_load_agg (i := 7) (vs := [Vi a.wide, .slice aa_0 a.counts.length ca_0.n]) rfl rfl sh24 rfl rfl) ?_
 refine w_mv rfl rfl ?_
 refine w_call0 (v := Vi (Sk.keyErr a key)) rfl (sketchErr_ok a aa_0 ca_0 key) hf19 (fun w hw => (rd_baseN (i := 8) rfl ha_0) w hw) rfl ?_
 refine w_p (p_assign rfl) ?_
 refine w_p (p_assign rfl) ?_
 refine w_nil (q_then (c_seq (c_region ?_)))
 refine o_mv rfl rfl ?_
 refine o_mv rfl rfl ?_
 refine o_mv rfl rfl ?_
 refine o_as rfl rfl ?_
 refine o_as rfl rfl ?_
 refine o_as rfl rfl ?_
 refine o_nil (q_then (c_seq (c_region ?_)))
 refine o_alloc ze24 rfl (fun B21 => ?_)
 refine o_alloc ze24 rfl (fun B22 => ?_)
 refine o_alloc ze24 rfl (fun B23 => ?_)
 refine o_nil (q_then (c_seq (c_region ?_)))
 refine o_as rfl rfl ?_
 refine o_as rfl rfl ?_
 refine o_nil (q_then (c_seq (c_seq (c_region ?_))))
 refine o_mv rfl rfl ?_
 refine o_p (p_eq rfl rfl) ?_
 refine o_nil (q_then ?_)
 refine c_ownNilN tInt ?_
 refine c_join (G := Int × Int × DSketch × Option Addr × NC × (Nat → Prop))
  (fun ⟨v, about, ad, aad_0, cad_0, Sad_0⟩ => [(4, .pointer (some ⟨B1, 0, none⟩)), (5, .pointer (some ⟨B2, 0, none⟩)), (9, .pointer (some ⟨B8, 0, none⟩)), (10, Vi (Sk.addErr a key many)), (11, Vi (Sk.est a key)), (12, Vi (Sk.keyErr a key)), (13, .pointer (some ⟨B14, 0, none⟩)), (14, Vi (Sk.mrgErr a b)), (15, .pointer (some ⟨B20, 0, none⟩)), (16, Vi (Sk.halfErr a)), (17, Vi (Sk.total a)), (18, Vi (Sk.check a)), (19, Vi (Sk.check a)), (20, Vi (Sk.keyErr a key)), (21, Vi v), (22, Vi (Sk.check a)), (23, Vi (Sk.check a)), (24, .pointer (some ⟨B21, 0, none⟩)), (25, .pointer (some ⟨B22, 0, none⟩)), (26, .pointer (some ⟨B23, 0, none⟩)), (27, Vi about), (28, Vi 0)])
  (fun ⟨v, about, ad, aad_0, cad_0, Sad_0⟩ => [ownN tInt Sad_0 aad_0 cad_0 ad.counts, box B23 [Vi 0, .slice none 0 0] 24, box B22 [Vi 0, .slice none 0 0] 24, box B21 [Vi ad.wide, .slice aad_0 ad.counts.length cad_0.n] 24, box B20 [Vi ((Sk.halve a).wide), .slice a17 ((Sk.halve a).counts).length c18.n] 24, ownN tInt S15 a17 c18 ((Sk.halve a).counts), box B14 [Vi ((Sk.merge a b).wide), .slice a11 ((Sk.merge a b).counts).length c12.n] 24, ownN tInt S9 a11 c12 ((Sk.merge a b).counts), box B8 [Vi ((Sk.add a key many).wide), .slice a5 ((Sk.add a key many).counts).length c6.n] 24, ownN tInt S3 a5 c6 ((Sk.add a key many).counts), box B2 [Vi b.wide, .slice ab_0 b.counts.length cb_0.n] 24, box B1 [Vi a.wide, .slice aa_0 a.counts.length ca_0.n] 24, base w0])
  (fun ⟨v, about, ad, aad_0, cad_0, Sad_0⟩ => Sk.J1 a key many v about ad)
  (fun K hK25 => ?_) ?_
 ·refine c_cond rfl (fun hc26 => ?_) (fun hc26 => ?_)
  ·simp only [beq_iff_eq] at hc26
   have hke := hc26
   have hko := Sk.key_ok hc26
   have hok := hko.1
   have hw1 := hok.w1
   have hw2 := hok.w2
   have hps := hok.pos
   have hfw := hok.few
   refine c_seq (c_region ?_)
   refine o_p (p_load_agg (i := 11) (vs := [Vi a.wide, .slice aa_0 a.counts.length ca_0.n]) rfl rfl sh24 rfl rfl) ?_
   refine o_callM rfl (sketchCopy_ok a aa_0 ca_0 (by first | assumption | exact hok.toForm)) hf20 (fun w hw => (rd_baseN (i := 12) rfl ha_0) w hw) rfl (fun _ _ _ _ ha hA => SlON.agree ha hA) ?_
   rintro ⟨a29, c30⟩ S27
   refine o_know (fun w hw => own_lenN (i := 0) (T := tInt) hw rfl) (fun hlr31 => ?_)
   refine o_storeN (i := 4) (vs := [Vi a.wide, .slice a29 a.counts.length c30.n]) (cs' := [Vi a.wide, .slice a29 a.counts.length c30.n]) rfl rfl rfl sz24 rfl rfl rfl rfl ?_
   refine o_nil (q_then (c_seq (c_region ?_)))
   refine o_as rfl rfl ?_
   refine o_nil (q_then (c_seq (c_seq (c_region ?_))))
   refine o_as rfl rfl ?_
   refine o_nil (q_then (c_block ?_))
   refine c_loop (St := Int × Nat × DSketch × Option Addr × NC × (Nat → Prop))
    (fun ⟨about, r, ad, aad_0, cad_0, Sad_0⟩ => [(2, .string key), (3, Vi many), (4, .pointer (some ⟨B1, 0, none⟩)), (5, .pointer (some ⟨B2, 0, none⟩)), (9, .pointer (some ⟨B8, 0, none⟩)), (10, Vi (Sk.addErr a key many)), (11, Vi (Sk.est a key)), (12, Vi (Sk.keyErr a key)), (13, .pointer (some ⟨B14, 0, none⟩)), (14, Vi (Sk.mrgErr a b)), (15, .pointer (some ⟨B20, 0, none⟩)), (16, Vi (Sk.halfErr a)), (17, Vi (Sk.total a)), (18, Vi (Sk.check a)), (19, Vi (Sk.check a)), (20, Vi (Sk.keyErr a key)), (21, Vi (Sk.keyErr a key)), (22, Vi (Sk.check a)), (23, Vi (Sk.check a)), (24, .pointer (some ⟨B21, 0, none⟩)), (25, .pointer (some ⟨B22, 0, none⟩)), (26, .pointer (some ⟨B23, 0, none⟩)), (27, Vi about), (28, Vi 0), (29, Vi (r : Int))])
    (fun ⟨about, r, ad, aad_0, cad_0, Sad_0⟩ => [ownN tInt Sad_0 aad_0 cad_0 ad.counts, ownN tInt (fun _ => False) none nc0 ([]), box B23 [Vi 0, .slice none 0 0] 24, box B22 [Vi 0, .slice none 0 0] 24, box B21 [Vi ad.wide, .slice aad_0 ad.counts.length cad_0.n] 24, box B20 [Vi ((Sk.halve a).wide), .slice a17 ((Sk.halve a).counts).length c18.n] 24, ownN tInt S15 a17 c18 ((Sk.halve a).counts), box B14 [Vi ((Sk.merge a b).wide), .slice a11 ((Sk.merge a b).counts).length c12.n] 24, ownN tInt S9 a11 c12 ((Sk.merge a b).counts), box B8 [Vi ((Sk.add a key many).wide), .slice a5 ((Sk.add a key many).counts).length c6.n] 24, ownN tInt S3 a5 c6 ((Sk.add a key many).counts), box B2 [Vi b.wide, .slice ab_0 b.counts.length cb_0.n] 24, box B1 [Vi a.wide, .slice aa_0 a.counts.length ca_0.n] 24, base w0])
    (fun ⟨about, r, ad, aad_0, cad_0, Sad_0⟩ => Sk.AI a key many ad about r)
    (fun ⟨about, r, ad, aad_0, cad_0, Sad_0⟩ => a.counts.length - r)
    (2199023255552, 0, a, a29, c30, S27) ?_ (sr (sr (sr (sr (sr (sr (sr (sr (sr (sr (sr (sr (sr (sr (sr (sr (sr (sr (sr (sr (sr (sr (sr (sr (sr (Sub.nil _)))))))))))))))))))))))))) (fun _ hw => hw) ?_
   ·exact Sk.AI.start a key many
   rintro ⟨about, r, ad, aad_0, cad_0, Sad_0⟩ hI K hK32
   have hrle := hI.le
   show SC _ _ Try.prog 290 w0 _ _ [(2, .string key), (3, Vi many), (4, .pointer (some ⟨B1, 0, none⟩)), (5, .pointer (some ⟨B2, 0, none⟩)), (9, .pointer (some ⟨B8, 0, none⟩)), (10, Vi (Sk.addErr a key many)), (11, Vi (Sk.est a key)), (12, Vi (Sk.keyErr a key)), (13, .pointer (some ⟨B14, 0, none⟩)), (14, Vi (Sk.mrgErr a b)), (15, .pointer (some ⟨B20, 0, none⟩)), (16, Vi (Sk.halfErr a)), (17, Vi (Sk.total a)), (18, Vi (Sk.check a)), (19, Vi (Sk.check a)), (20, Vi (Sk.keyErr a key)), (21, Vi (Sk.keyErr a key)), (22, Vi (Sk.check a)), (23, Vi (Sk.check a)), (24, .pointer (some ⟨B21, 0, none⟩)), (25, .pointer (some ⟨B22, 0, none⟩)), (26, .pointer (some ⟨B23, 0, none⟩)), (27, Vi about), (28, Vi 0), (29, Vi (r : Int))] [ownN tInt Sad_0 aad_0 cad_0 ad.counts, ownN tInt (fun _ => False) none nc0 ([]), box B23 [Vi 0, .slice none 0 0] 24, box B22 [Vi 0, .slice none 0 0] 24, box B21 [Vi ad.wide, .slice aad_0 ad.counts.length cad_0.n] 24, box B20 [Vi ((Sk.halve a).wide), .slice a17 ((Sk.halve a).counts).length c18.n] 24, ownN tInt S15 a17 c18 ((Sk.halve a).counts), box B14 [Vi ((Sk.merge a b).wide), .slice a11 ((Sk.merge a b).counts).length c12.n] 24, ownN tInt S9 a11 c12 ((Sk.merge a b).counts), box B8 [Vi ((Sk.add a key many).wide), .slice a5 ((Sk.add a key many).counts).length c6.n] 24, ownN tInt S3 a5 c6 ((Sk.add a key many).counts), box B2 [Vi b.wide, .slice ab_0 b.counts.length cb_0.n] 24, box B1 [Vi a.wide, .slice aa_0 a.counts.length ca_0.n] 24, base w0]
   refine c_seq (c_seq (c_region ?_))
   refine o_mv rfl rfl ?_
   refine o_p (p_fieldAddr (j' := 1) rfl fo24_1 rfl) ?_
   refine o_p (p_load (i := 12) (v := .slice aa_0 a.counts.length ca_0.n) rfl rfl sh22 rfl) ?_
   refine o_p (p_len_slice rfl rfl Try.underlying22) ?_
   refine o_p (p_lt rfl rfl) ?_
   refine o_nil (q_then ?_)
   refine c_cond rfl (fun hc33 => ?_) (fun hc33 => ?_)
   ·simp only [decide_eq_true_eq] at hc33
    have hpr := Sk.place_bd key (r : Int) (wide := a.wide) ⟨hw1, hw2⟩
    have hrl := hok.row_len (show r < a.counts.length by omega)
    have hsh := hI.shape.1
    have hsr := hI.shape.2 r
    have hO := hI
    refine c_skip (q_then (c_seq (c_block (c_seq (c_region ?_)))))
    refine o_mv rfl rfl ?_
    refine o_mv rfl rfl ?_
    refine o_p (p_fieldAddr (j' := 0) rfl fo24_0 rfl) ?_
    refine o_p (p_load (i := 12) (v := Vi a.wide) rfl rfl sh3 rfl) ?_
    refine o_call0 (v := Vi (Sk.place key (r : Int) a.wide)) rfl (sketchPlace_ok key (r : Int) a.wide (by first | assumption | exact hko.2)) hf21 (fun _ _ => trivial) rfl ?_
    refine o_as rfl rfl ?_
    refine o_nil (q_then (c_seq (c_region ?_)))
    refine o_mv rfl rfl ?_
    refine o_p (p_fieldAddr (j' := 1) rfl fo24_1 rfl) ?_
    refine o_p (p_load (i := 12) (v := .slice aa_0 a.counts.length ca_0.n) rfl rfl sh22 rfl) ?_
    refine o_mv rfl rfl ?_
    refine o_p (p_indexAddrN (T := tInt) (c := ca_0) (LL := a.counts) (i := (r : Int)) rfl rfl (rd_baseN (i := 13) rfl ha_0) Try.underlying22 sz37 (by first | omega | decide) (by first | omega | decide)) ?_
    refine o_p (p_loadN (T := tInt) (c := ca_0) (LL := a.counts) (i := r) rfl (rd_baseN (i := 13) rfl ha_0) (by first | assumption | omega | decide) sh37) ?_
    refine o_mv rfl rfl ?_
    refine o_p (p_indexAddr (L := (a.counts.getD r [])) (T := tInt) (i := (Sk.place key (r : Int) a.wide)) rfl rfl (rd_rowN (i := r) (rd_baseN (i := 13) rfl ha_0) (by first | assumption | omega)) Try.underlying37 sz3 (by omega) (by omega)) ?_
    refine o_p (p_loadE1 (i := (Sk.place key (r : Int) a.wide).toNat) (T := tInt) (L := (a.counts.getD r [])) (v := Vi ((a.counts.getD r []).getD ((Sk.place key (r : Int) a.wide).toNat) default)) rfl (rd_rowN (i := r) (rd_baseN (i := 13) rfl ha_0) (by first | assumption | omega)) (by first | assumption | omega) sh3 (congrArg tInt.enc (getd_at (by first | assumption | omega) default))) ?_
    refine o_p (p_min (p := about) (q := ((a.counts.getD r []).getD ((Sk.place key (r : Int) a.wide).toNat) default)) rfl rfl) ?_
    refine o_as rfl rfl ?_
    refine o_nil (q_then (c_seq (c_region ?_)))
    refine o_mv rfl rfl ?_
    refine o_p (p_gt rfl rfl) ?_
    refine o_mv rfl rfl ?_
    refine o_and (p := 103) 3 (decide (many ≤ 1099511627776)) ?_ ?_ ?_
    ·intro hb34 hk
     simp only [decide_eq_true_eq] at hb34
     refine o_unguard 100 rfl rfl ?_
     refine o_mv rfl rfl ?_
     refine o_unguard 100 rfl rfl ?_
     refine o_p (p_le rfl rfl) ?_
     refine o_pt rfl rfl rfl ?_
     exact o_sub (sr (Sub.skip rfl (Sub.skip rfl (Sub.skip rfl (Sub.skip rfl (Sub.refl _)))))) hk
    ·intro hb34 hk
     refine o_guard_no rfl 100 rfl rfl rfl rfl rfl ?_
     refine o_guard_no rfl 100 rfl rfl rfl rfl rfl ?_
     refine o_pf rfl rfl rfl ?_
     exact o_sub (sr (Sub.skip rfl (Sub.skip rfl (Sub.skip rfl (Sub.skip rfl (Sub.refl _)))))) hk
    refine o_nil (q_then ?_)
    refine c_cond rfl (fun hc35 => ?_) (fun hc35 => ?_)
    ·simp only [Bool.and_eq_true, decide_eq_true_eq] at hc35
     have hmm : Sk.okM many := ⟨by omega, by omega⟩
     have hbd := hO.bound hok hmm (show r < a.counts.length by omega) (p := (Sk.place key (r : Int) a.wide).toNat) (by omega)
     have hv1 := hmm.1
     have hv2 := hmm.2
     refine c_region ?_
     refine o_p (p_fieldAddr (j' := 1) rfl fo24_1 rfl) ?_
     refine o_p (p_load (i := 4) (v := .slice aad_0 ad.counts.length cad_0.n) rfl rfl sh22 rfl) ?_
     refine o_mv rfl rfl ?_
     refine o_p (p_indexAddrN (T := tInt) (c := cad_0) (LL := ad.counts) (i := (r : Int)) rfl rfl (rd_ownN (i := 0) rfl) Try.underlying22 sz37 (by first | omega | decide) (by first | omega | decide)) ?_
     refine o_p (p_loadN (T := tInt) (c := cad_0) (LL := ad.counts) (i := r) rfl (rd_ownN (i := 0) rfl) (by first | assumption | omega | decide) sh37) ?_
     refine o_mv rfl rfl ?_
     refine o_p (p_indexAddr (L := (ad.counts.getD r [])) (T := tInt) (i := (Sk.place key (r : Int) a.wide)) rfl rfl (rd_rowN (i := r) (rd_ownN (i := 0) rfl) (by first | assumption | omega)) Try.underlying37 sz3 (by omega) (by omega)) ?_
     refine o_p (p_loadE1 (i := (Sk.place key (r : Int) a.wide).toNat) (T := tInt) (L := (ad.counts.getD r [])) (v := Vi ((ad.counts.getD r []).getD ((Sk.place key (r : Int) a.wide).toNat) default)) rfl (rd_rowN (i := r) (rd_ownN (i := 0) rfl) (by first | assumption | omega)) (by first | assumption | omega) sh3 (congrArg tInt.enc (getd_at (by first | assumption | omega) default))) ?_
     refine o_mv rfl rfl ?_
     refine o_p (p_addb rfl rfl (by omega)) ?_
     refine o_p (p_indexAddr (L := (ad.counts.getD r [])) (T := tInt) (i := (Sk.place key (r : Int) a.wide)) rfl rfl (rd_rowN (i := r) (rd_ownN (i := 0) rfl) (by first | assumption | omega)) Try.underlying37 sz3 (by omega) (by omega)) ?_
     refine o_storeElW (k := r) (T := tInt) (idx := (Sk.place key (r : Int) a.wide).toNat) (v := Vi (((ad.counts.getD r []).getD ((Sk.place key (r : Int) a.wide).toNat) default) + many)) (vs := [Vi (((ad.counts.getD r []).getD ((Sk.place key (r : Int) a.wide).toNat) default) + many)]) (z := (((ad.counts.getD r []).getD ((Sk.place key (r : Int) a.wide).toNat) default) + many)) (F' := [(2, .string key), (3, Vi many), (4, .pointer (some ⟨B1, 0, none⟩)), (5, .pointer (some ⟨B2, 0, none⟩)), (9, .pointer (some ⟨B8, 0, none⟩)), (10, Vi (Sk.addErr a key many)), (11, Vi (Sk.est a key)), (12, Vi (Sk.keyErr a key)), (13, .pointer (some ⟨B14, 0, none⟩)), (14, Vi (Sk.mrgErr a b)), (15, .pointer (some ⟨B20, 0, none⟩)), (16, Vi (Sk.halfErr a)), (17, Vi (Sk.total a)), (18, Vi (Sk.check a)), (19, Vi (Sk.check a)), (20, Vi (Sk.keyErr a key)), (21, Vi (Sk.keyErr a key)), (22, Vi (Sk.check a)), (23, Vi (Sk.check a)), (24, .pointer (some ⟨B21, 0, none⟩)), (25, .pointer (some ⟨B22, 0, none⟩)), (26, .pointer (some ⟨B23, 0, none⟩)), (27, Vi (min about ((a.counts.getD r []).getD ((Sk.place key (r : Int) a.wide).toNat) default))), (28, Vi 0), (29, Vi (r : Int))]) rfl rfl rfl (by first | assumption | omega | (simp only [List.length_set]; omega)) (by first | assumption | omega | (simp only [List.length_set]; omega)) sz3 rfl rfl rfl rfl (sr (sr (sr (sr (sr (sr (sr (sr (sr (sr (sr (sr (sr (sr (sr (sr (sr (sr (sr (sr (sr (sr (sr (sr (sr (Sub.nil _)))))))))))))))))))))))))) ?_
     refine o_asH (H := [ownN tInt Sad_0 aad_0 cad_0 (ad.counts.set r ((ad.counts.getD r []).set ((Sk.place key (r : Int) a.wide).toNat) (((ad.counts.getD r []).getD ((Sk.place key (r : Int) a.wide).toNat) default) + many))), ownN tInt (fun _ => False) none nc0 ([]), box B23 [Vi 0, .slice none 0 0] 24, box B22 [Vi 0, .slice none 0 0] 24, box B21 [Vi ad.wide, .slice aad_0 ad.counts.length cad_0.n] 24, box B20 [Vi ((Sk.halve a).wide), .slice a17 ((Sk.halve a).counts).length c18.n] 24, ownN tInt S15 a17 c18 ((Sk.halve a).counts), box B14 [Vi ((Sk.merge a b).wide), .slice a11 ((Sk.merge a b).counts).length c12.n] 24, ownN tInt S9 a11 c12 ((Sk.merge a b).counts), box B8 [Vi ((Sk.add a key many).wide), .slice a5 ((Sk.add a key many).counts).length c6.n] 24, ownN tInt S3 a5 c6 ((Sk.add a key many).counts), box B2 [Vi b.wide, .slice ab_0 b.counts.length cb_0.n] 24, box B1 [Vi a.wide, .slice aa_0 a.counts.length ca_0.n] 24, base w0]) (H' := [ownN tInt Sad_0 aad_0 cad_0 (ad.counts.set r ((ad.counts.getD r []).set ((Sk.place key (r : Int) a.wide).toNat) (((ad.counts.getD r []).getD ((Sk.place key (r : Int) a.wide).toNat) default) + many))), ownN tInt (fun _ => False) none nc0 ([]), box B23 [Vi 0, .slice none 0 0] 24, box B22 [Vi 0, .slice none 0 0] 24, box B21 [Vi ad.wide, .slice aad_0 (ad.counts.set r ((ad.counts.getD r []).set ((Sk.place key (r : Int) a.wide).toNat) (((ad.counts.getD r []).getD ((Sk.place key (r : Int) a.wide).toNat) default) + many))).length cad_0.n] 24, box B20 [Vi ((Sk.halve a).wide), .slice a17 ((Sk.halve a).counts).length c18.n] 24, ownN tInt S15 a17 c18 ((Sk.halve a).counts), box B14 [Vi ((Sk.merge a b).wide), .slice a11 ((Sk.merge a b).counts).length c12.n] 24, ownN tInt S9 a11 c12 ((Sk.merge a b).counts), box B8 [Vi ((Sk.add a key many).wide), .slice a5 ((Sk.add a key many).counts).length c6.n] 24, ownN tInt S3 a5 c6 ((Sk.add a key many).counts), box B2 [Vi b.wide, .slice ab_0 b.counts.length cb_0.n] 24, box B1 [Vi a.wide, .slice aa_0 a.counts.length ca_0.n] 24, base w0]) (by simp only [List.length_set]; try rfl) ?_
     refine o_nil ?_
     refine q_block_normal (q_then ?_)
     refine c_region ?_
     refine o_mv rfl rfl ?_
     refine o_p (p_addb rfl rfl (by omega)) ?_
     refine o_as rfl rfl ?_
     refine o_nil ?_
     refine q_round hK32 ((min about ((a.counts.getD r []).getD ((Sk.place key (r : Int) a.wide).toNat) default)), r + 1, (⟨ad.wide, (ad.counts.set r ((ad.counts.getD r []).set ((Sk.place key (r : Int) a.wide).toNat) (((ad.counts.getD r []).getD ((Sk.place key (r : Int) a.wide).toNat) default) + many)))⟩ : DSketch), aad_0, cad_0, Sad_0) ?_ ?_ ?_ ?_
     ·clear hK32
      first | exact hO.yes hok hmm (by omega) | exact hO.no hmm (by omega)
     ·(try dsimp only); omega
     ·exact sr (sr (sr (sr (sr (sr (sr (sr (sr (sr (sr (sr (sr (sr (sr (sr (sr (sr (sr (sr (sr (sr (sr (sr (sr (Sub.nil _)))))))))))))))))))))))))
     ·exact pk [0, 1, 2, 3, 4, 5, 6, 7, 8, 9, 10, 11, 12, 13]
    ·simp only [Bool.and_eq_false_iff, decide_eq_false_iff_not, Int.not_lt, Int.not_le] at hc35
     have hmm : ¬ Sk.okM many := by unfold Sk.okM; omega
     refine c_skip ?_
     refine q_block_normal (q_then ?_)
     refine c_region ?_
     refine o_mv rfl rfl ?_
     refine o_p (p_addb rfl rfl (by omega)) ?_
     refine o_as rfl rfl ?_
     refine o_nil ?_
     refine q_round hK32 ((min about ((a.counts.getD r []).getD ((Sk.place key (r : Int) a.wide).toNat) default)), r + 1, ad, aad_0, cad_0, Sad_0) ?_ ?_ ?_ ?_
     ·clear hK32
      first | exact hO.yes hok hmm (by omega) | exact hO.no hmm (by omega)
     ·(try dsimp only); omega
     ·exact sr (sr (sr (sr (sr (sr (sr (sr (sr (sr (sr (sr (sr (sr (sr (sr (sr (sr (sr (sr (sr (sr (sr (sr (sr (Sub.nil _)))))))))))))))))))))))))
     ·exact pk [0, 1, 2, 3, 4, 5, 6, 7, 8, 9, 10, 11, 12, 13]
   ·simp only [decide_eq_false_iff_not, Int.not_lt] at hc33
    refine c_exit ?_
    refine q_then_exit (q_then_exit (q_block_exit (q_then ?_)))
    refine c_seq (c_region ?_)
    refine o_mv rfl rfl ?_
    refine o_p (p_lt rfl rfl) ?_
    refine o_mv rfl rfl ?_
    refine o_or (p := 120) 3 (decide (1099511627776 < many)) ?_ ?_ ?_
    ·intro hb36 hk
     simp only [decide_eq_false_iff_not, Int.not_lt] at hb36
     refine o_unguard 117 rfl rfl ?_
     refine o_mv rfl rfl ?_
     refine o_unguard 117 rfl rfl ?_
     refine o_p (p_gt rfl rfl) ?_
     refine o_pf rfl rfl rfl ?_
     exact o_sub (sr (Sub.skip rfl (Sub.skip rfl (Sub.skip rfl (Sub.skip rfl (Sub.refl _)))))) hk
    ·intro hb36 hk
     refine o_guard_no rfl 117 rfl rfl rfl rfl rfl ?_
     refine o_guard_no rfl 117 rfl rfl rfl rfl rfl ?_
     refine o_pt rfl rfl rfl ?_
     exact o_sub (sr (Sub.skip rfl (Sub.skip rfl (Sub.skip rfl (Sub.skip rfl (Sub.refl _)))))) hk
    refine o_nil (q_then ?_)
    refine c_cond rfl (fun hc37 => ?_) (fun hc37 => ?_)
    ·simp only [Bool.or_eq_true, decide_eq_true_eq] at hc37
     have hmr := hc37
     refine c_region ?_
     refine o_as rfl rfl ?_
     refine o_nil ?_
     refine q_join hK25 (3, about, ad, aad_0, cad_0, Sad_0) ?_ (sr (sr (sr (sr (sr (sr (sr (sr (sr (sr (sr (sr (sr (sr (sr (sr (sr (sr (sr (sr (sr (sr (Sub.nil _))))))))))))))))))))))) (pk [0, 2, 3, 4, 5, 6, 7, 8, 9, 10, 11, 12, 13])
     clear hK25
     first | exact Sk.J1.none hnk | exact Sk.J1.range hI hke (by omega) hmr | exact Sk.J1.full hI hke (by omega) hmm hft | exact Sk.J1.fine2 hI hke (by omega) hmm hft
    ·simp only [Bool.or_eq_false_iff, decide_eq_false_iff_not, Int.not_lt] at hc37
     have hmm : Sk.okM many := ⟨by omega, by omega⟩
     refine c_seq (c_region ?_)
     refine o_p (p_load_agg (i := 4) (vs := [Vi ad.wide, .slice aad_0 ad.counts.length cad_0.n]) rfl rfl sh24 rfl rfl) ?_
     refine o_call0 (v := .bool (Sk.fits ad.counts)) rfl (sketchFits_ok ad aad_0 cad_0) hf22 (fun w hw => (rd_ownN (i := 0) rfl) w hw) rfl ?_
     refine o_p (p_not (b := (Sk.fits ad.counts)) rfl) ?_
     refine o_nil (q_then ?_)
     refine c_cond rfl (fun hc38 => ?_) (fun hc38 => ?_)
     ·simp only [Bool.not_eq_true'] at hc38
      have hft := hc38
      refine c_region ?_
      refine o_as rfl rfl ?_
      refine o_nil ?_
      refine q_join hK25 (8, about, ad, aad_0, cad_0, Sad_0) ?_ (sr (sr (sr (sr (sr (sr (sr (sr (sr (sr (sr (sr (sr (sr (sr (sr (sr (sr (sr (sr (sr (sr (Sub.nil _))))))))))))))))))))))) (pk [0, 2, 3, 4, 5, 6, 7, 8, 9, 10, 11, 12, 13])
      clear hK25
      first | exact Sk.J1.none hnk | exact Sk.J1.range hI hke (by omega) hmr | exact Sk.J1.full hI hke (by omega) hmm hft | exact Sk.J1.fine2 hI hke (by omega) hmm hft
     ·simp only [Bool.not_eq_false'] at hc38
      have hft := hc38
      refine c_skip ?_
      refine q_join hK25 ((Sk.keyErr a key), about, ad, aad_0, cad_0, Sad_0) ?_ (sr (sr (sr (sr (sr (sr (sr (sr (sr (sr (sr (sr (sr (sr (sr (sr (sr (sr (sr (sr (sr (sr (Sub.nil _))))))))))))))))))))))) (pk [0, 2, 3, 4, 5, 6, 7, 8, 9, 10, 11, 12, 13])
      clear hK25
      first | exact Sk.J1.none hnk | exact Sk.J1.range hI hke (by omega) hmr | exact Sk.J1.full hI hke (by omega) hmm hft | exact Sk.J1.fine2 hI hke (by omega) hmm hft
  ·simp only [beq_eq_false_iff_ne, ne_eq] at hc26
   have hnk := hc26
   refine c_skip ?_
   refine q_join hK25 ((Sk.keyErr a key), 0, (⟨0, []⟩ : DSketch), none, nc0, (fun _ => False)) ?_ (sr (sr (sr (sr (sr (sr (sr (sr (sr (sr (sr (sr (sr (sr (sr (sr (sr (sr (sr (sr (sr (sr (Sub.nil _))))))))))))))))))))))) (pk [0, 1, 2, 3, 4, 5, 6, 7, 8, 9, 10, 11, 12])
   clear hK25
   first | exact Sk.J1.none hnk | exact Sk.J1.range hI hke (by omega) hmr | exact Sk.J1.full hI hke (by omega) hmm hft | exact Sk.J1.fine2 hI hke (by omega) hmm hft
 rintro ⟨v, about, ad, aad_0, cad_0, Sad_0⟩ hj1
 show SQ _ 290 w0 _ _ [(4, .pointer (some ⟨B1, 0, none⟩)), (5, .pointer (some ⟨B2, 0, none⟩)), (9, .pointer (some ⟨B8, 0, none⟩)), (10, Vi (Sk.addErr a key many)), (11, Vi (Sk.est a key)), (12, Vi (Sk.keyErr a key)), (13, .pointer (some ⟨B14, 0, none⟩)), (14, Vi (Sk.mrgErr a b)), (15, .pointer (some ⟨B20, 0, none⟩)), (16, Vi (Sk.halfErr a)), (17, Vi (Sk.total a)), (18, Vi (Sk.check a)), (19, Vi (Sk.check a)), (20, Vi (Sk.keyErr a key)), (21, Vi v), (22, Vi (Sk.check a)), (23, Vi (Sk.check a)), (24, .pointer (some ⟨B21, 0, none⟩)), (25, .pointer (some ⟨B22, 0, none⟩)), (26, .pointer (some ⟨B23, 0, none⟩)), (27, Vi about), (28, Vi 0)] [ownN tInt Sad_0 aad_0 cad_0 ad.counts, box B23 [Vi 0, .slice none 0 0] 24, box B22 [Vi 0, .slice none 0 0] 24, box B21 [Vi ad.wide, .slice aad_0 ad.counts.length cad_0.n] 24, box B20 [Vi ((Sk.halve a).wide), .slice a17 ((Sk.halve a).counts).length c18.n] 24, ownN tInt S15 a17 c18 ((Sk.halve a).counts), box B14 [Vi ((Sk.merge a b).wide), .slice a11 ((Sk.merge a b).counts).length c12.n] 24, ownN tInt S9 a11 c12 ((Sk.merge a b).counts), box B8 [Vi ((Sk.add a key many).wide), .slice a5 ((Sk.add a key many).counts).length c6.n] 24, ownN tInt S3 a5 c6 ((Sk.add a key many).counts), box B2 [Vi b.wide, .slice ab_0 b.counts.length cb_0.n] 24, box B1 [Vi a.wide, .slice aa_0 a.counts.length ca_0.n] 24, base w0]
 refine q_then (c_seq (c_seq (c_region ?_)))
 refine o_mv rfl rfl ?_
 refine o_p (p_eq rfl rfl) ?_
 refine o_nil (q_then ?_)
 refine c_ownNilN tInt ?_
 refine c_ownNilN tInt ?_
 refine c_join (G := Int × Int × Int × DSketch × Option Addr × NC × (Nat → Prop) × DSketch × Option Addr × NC × (Nat → Prop))
  (fun ⟨u, o, total, hf, ahf_0, chf_0, Shf_0, bo, abo_0, cbo_0, Sbo_0⟩ => [(4, .pointer (some ⟨B1, 0, none⟩)), (9, .pointer (some ⟨B8, 0, none⟩)), (10, Vi (Sk.addErr a key many)), (11, Vi (Sk.est a key)), (12, Vi (Sk.keyErr a key)), (13, .pointer (some ⟨B14, 0, none⟩)), (14, Vi (Sk.mrgErr a b)), (15, .pointer (some ⟨B20, 0, none⟩)), (16, Vi (Sk.halfErr a)), (17, Vi (Sk.total a)), (18, Vi (Sk.check a)), (19, Vi (Sk.check a)), (20, Vi (Sk.keyErr a key)), (21, Vi v), (22, Vi u), (23, Vi o), (24, .pointer (some ⟨B21, 0, none⟩)), (25, .pointer (some ⟨B22, 0, none⟩)), (26, .pointer (some ⟨B23, 0, none⟩)), (27, Vi about), (28, Vi total)])
  (fun ⟨u, o, total, hf, ahf_0, chf_0, Shf_0, bo, abo_0, cbo_0, Sbo_0⟩ => [ownN tInt Sbo_0 abo_0 cbo_0 bo.counts, ownN tInt Shf_0 ahf_0 chf_0 hf.counts, ownN tInt Sad_0 aad_0 cad_0 ad.counts, box B23 [Vi hf.wide, .slice ahf_0 hf.counts.length chf_0.n] 24, box B22 [Vi bo.wide, .slice abo_0 bo.counts.length cbo_0.n] 24, box B21 [Vi ad.wide, .slice aad_0 ad.counts.length cad_0.n] 24, box B20 [Vi ((Sk.halve a).wide), .slice a17 ((Sk.halve a).counts).length c18.n] 24, ownN tInt S15 a17 c18 ((Sk.halve a).counts), box B14 [Vi ((Sk.merge a b).wide), .slice a11 ((Sk.merge a b).counts).length c12.n] 24, ownN tInt S9 a11 c12 ((Sk.merge a b).counts), box B8 [Vi ((Sk.add a key many).wide), .slice a5 ((Sk.add a key many).counts).length c6.n] 24, ownN tInt S3 a5 c6 ((Sk.add a key many).counts), box B2 [Vi b.wide, .slice ab_0 b.counts.length cb_0.n] 24, box B1 [Vi a.wide, .slice aa_0 a.counts.length ca_0.n] 24, base w0])
  (fun ⟨u, o, total, hf, ahf_0, chf_0, Shf_0, bo, abo_0, cbo_0, Sbo_0⟩ => Sk.J2 a b u o total bo hf)
  (fun K hK41 => ?_) ?_
 ·refine c_cond rfl (fun hc42 => ?_) (fun hc42 => ?_)
  ·simp only [beq_iff_eq] at hc42
   have hca := hc42
   have hok := Sk.check_ok.1 hc42
   have hw1 := hok.w1
   have hw2 := hok.w2
   have hps := hok.pos
   have hfw := hok.few
   have hvals := hok.toForm.vals
   have hr0 := hok.row_len (show 0 < a.counts.length by omega)
   have htt : Sk.total a = Sk.sum (a.counts.getD 0 []) := if_pos hca
   refine c_seq (c_region ?_)
   refine o_p (p_fieldAddr (j' := 1) rfl fo24_1 rfl) ?_
   refine o_p (p_load (i := 13) (v := .slice aa_0 a.counts.length ca_0.n) rfl rfl sh22 rfl) ?_
   refine o_p (p_indexAddrN (T := tInt) (c := ca_0) (LL := a.counts) (i := 0) rfl rfl (rd_baseN (i := 14) rfl ha_0) Try.underlying22 sz37 (by first | omega | decide) (by first | omega | decide)) ?_
   refine o_p (p_loadN (T := tInt) (c := ca_0) (LL := a.counts) (i := 0) rfl (rd_baseN (i := 14) rfl ha_0) (by first | assumption | omega | decide) sh37) ?_
   refine o_call0 (v := Vi (Sk.sum (a.counts.getD 0 []))) rfl (sumOf_ok (a.counts.getD 0 []) (ca_0.ra 0) (ca_0.rc 0) (by first | assumption | exact hy1.row (by omega) | exact hvals.row (by omega))) hf23 (fun w hw => (rd_rowN (i := 0) (rd_baseN (i := 14) rfl ha_0) (by first | assumption | omega)) w hw) rfl ?_
   refine o_as rfl rfl ?_
   refine o_nil (q_then (c_seq (c_region ?_)))
   refine o_p (p_load_agg (i := 13) (vs := [Vi a.wide, .slice aa_0 a.counts.length ca_0.n]) rfl rfl sh24 rfl rfl) ?_
   refine o_callM rfl (sketchCopy_ok a aa_0 ca_0 (by first | assumption | exact hok.toForm)) hf20 (fun w hw => (rd_baseN (i := 14) rfl ha_0) w hw) rfl (fun _ _ _ _ ha hA => SlON.agree ha hA) ?_
   rintro ⟨a45, c46⟩ S43
   refine o_know (fun w hw => own_lenN (i := 0) (T := tInt) hw rfl) (fun hlr47 => ?_)
   refine o_storeN (i := 4) (vs := [Vi a.wide, .slice a45 a.counts.length c46.n]) (cs' := [Vi a.wide, .slice a45 a.counts.length c46.n]) rfl rfl rfl sz24 rfl rfl rfl rfl ?_
   refine o_nil (q_then (c_seq (c_seq (c_region ?_))))
   refine o_as rfl rfl ?_
   refine o_nil (q_then (c_block ?_))
   refine c_loop (St := Nat × DSketch × Option Addr × NC × (Nat → Prop))
    (fun ⟨r, hf, ahf_0, chf_0, Shf_0⟩ => [(4, .pointer (some ⟨B1, 0, none⟩)), (5, .pointer (some ⟨B2, 0, none⟩)), (9, .pointer (some ⟨B8, 0, none⟩)), (10, Vi (Sk.addErr a key many)), (11, Vi (Sk.est a key)), (12, Vi (Sk.keyErr a key)), (13, .pointer (some ⟨B14, 0, none⟩)), (14, Vi (Sk.mrgErr a b)), (15, .pointer (some ⟨B20, 0, none⟩)), (16, Vi (Sk.halfErr a)), (17, Vi (Sk.total a)), (18, Vi (Sk.check a)), (19, Vi (Sk.check a)), (20, Vi (Sk.keyErr a key)), (21, Vi v), (23, Vi (Sk.check a)), (24, .pointer (some ⟨B21, 0, none⟩)), (25, .pointer (some ⟨B22, 0, none⟩)), (26, .pointer (some ⟨B23, 0, none⟩)), (27, Vi about), (28, Vi (Sk.sum (a.counts.getD 0 []))), (31, Vi (r : Int))])
    (fun ⟨r, hf, ahf_0, chf_0, Shf_0⟩ => [ownN tInt Shf_0 ahf_0 chf_0 hf.counts, ownN tInt (fun _ => False) none nc0 ([]), ownN tInt (fun _ => False) none nc0 ([]), ownN tInt Sad_0 aad_0 cad_0 ad.counts, box B23 [Vi hf.wide, .slice ahf_0 hf.counts.length chf_0.n] 24, box B22 [Vi 0, .slice none 0 0] 24, box B21 [Vi ad.wide, .slice aad_0 ad.counts.length cad_0.n] 24, box B20 [Vi ((Sk.halve a).wide), .slice a17 ((Sk.halve a).counts).length c18.n] 24, ownN tInt S15 a17 c18 ((Sk.halve a).counts), box B14 [Vi ((Sk.merge a b).wide), .slice a11 ((Sk.merge a b).counts).length c12.n] 24, ownN tInt S9 a11 c12 ((Sk.merge a b).counts), box B8 [Vi ((Sk.add a key many).wide), .slice a5 ((Sk.add a key many).counts).length c6.n] 24, ownN tInt S3 a5 c6 ((Sk.add a key many).counts), box B2 [Vi b.wide, .slice ab_0 b.counts.length cb_0.n] 24, box B1 [Vi a.wide, .slice aa_0 a.counts.length ca_0.n] 24, base w0])
    (fun ⟨r, hf, ahf_0, chf_0, Shf_0⟩ => hf.wide = a.wide ∧ Sk.PR Sk.halfF a.counts hf.counts r 0)
    (fun ⟨r, hf, ahf_0, chf_0, Shf_0⟩ => a.counts.length - r)
    (0, a, a45, c46, S43) ?_ (sr (sr (sr (sr (sr (sr (sr (sr (sr (sr (sr (sr (sr (sr (sr (sr (sr (sr (sr (sr (sr (sr (Sub.nil _))))))))))))))))))))))) (fun _ hw => hw) ?_
   ·exact ⟨rfl, Sk.PR.start _ _⟩
   rintro ⟨r, hf, ahf_0, chf_0, Shf_0⟩ hI K hK48
   have hhl0 := hI.2.len
   show SC _ _ Try.prog 290 w0 _ _ [(4, .pointer (some ⟨B1, 0, none⟩)), (5, .pointer (some ⟨B2, 0, none⟩)), (9, .pointer (some ⟨B8, 0, none⟩)), (10, Vi (Sk.addErr a key many)), (11, Vi (Sk.est a key)), (12, Vi (Sk.keyErr a key)), (13, .pointer (some ⟨B14, 0, none⟩)), (14, Vi (Sk.mrgErr a b)), (15, .pointer (some ⟨B20, 0, none⟩)), (16, Vi (Sk.halfErr a)), (17, Vi (Sk.total a)), (18, Vi (Sk.check a)), (19, Vi (Sk.check a)), (20, Vi (Sk.keyErr a key)), (21, Vi v), (23, Vi (Sk.check a)), (24, .pointer (some ⟨B21, 0, none⟩)), (25, .pointer (some ⟨B22, 0, none⟩)), (26, .pointer (some ⟨B23, 0, none⟩)), (27, Vi about), (28, Vi (Sk.sum (a.counts.getD 0 []))), (31, Vi (r : Int))] [ownN tInt Shf_0 ahf_0 chf_0 hf.counts, ownN tInt (fun _ => False) none nc0 ([]), ownN tInt (fun _ => False) none nc0 ([]), ownN tInt Sad_0 aad_0 cad_0 ad.counts, box B23 [Vi hf.wide, .slice ahf_0 hf.counts.length chf_0.n] 24, box B22 [Vi 0, .slice none 0 0] 24, box B21 [Vi ad.wide, .slice aad_0 ad.counts.length cad_0.n] 24, box B20 [Vi ((Sk.halve a).wide), .slice a17 ((Sk.halve a).counts).length c18.n] 24, ownN tInt S15 a17 c18 ((Sk.halve a).counts), box B14 [Vi ((Sk.merge a b).wide), .slice a11 ((Sk.merge a b).counts).length c12.n] 24, ownN tInt S9 a11 c12 ((Sk.merge a b).counts), box B8 [Vi ((Sk.add a key many).wide), .slice a5 ((Sk.add a key many).counts).length c6.n] 24, ownN tInt S3 a5 c6 ((Sk.add a key many).counts), box B2 [Vi b.wide, .slice ab_0 b.counts.length cb_0.n] 24, box B1 [Vi a.wide, .slice aa_0 a.counts.length ca_0.n] 24, base w0]
   refine c_seq (c_seq (c_region ?_))
   refine o_mv rfl rfl ?_
   refine o_p (p_fieldAddr (j' := 1) rfl fo24_1 rfl) ?_
   refine o_p (p_load (i := 4) (v := .slice ahf_0 hf.counts.length chf_0.n) rfl rfl sh22 rfl) ?_
   refine o_p (p_len_slice rfl rfl Try.underlying22) ?_
   refine o_p (p_lt rfl rfl) ?_
   refine o_nil (q_then ?_)
   refine c_cond rfl (fun hc49 => ?_) (fun hc49 => ?_)
   ·simp only [decide_eq_true_eq] at hc49
    have hO := hI
    have hhl := hI.2.len
    have hrl := hok.row_len (show r < a.counts.length by omega)
    have hhr := hI.2.rlen r
    refine c_skip (q_then (c_seq (c_block (c_seq (c_region ?_)))))
    refine o_as rfl rfl ?_
    refine o_nil (q_then (c_block ?_))
    refine c_loop (St := Nat × DSketch × Option Addr × NC × (Nat → Prop))
     (fun ⟨k, hf, ahf_0, chf_0, Shf_0⟩ => [(4, .pointer (some ⟨B1, 0, none⟩)), (5, .pointer (some ⟨B2, 0, none⟩)), (9, .pointer (some ⟨B8, 0, none⟩)), (10, Vi (Sk.addErr a key many)), (11, Vi (Sk.est a key)), (12, Vi (Sk.keyErr a key)), (13, .pointer (some ⟨B14, 0, none⟩)), (14, Vi (Sk.mrgErr a b)), (15, .pointer (some ⟨B20, 0, none⟩)), (16, Vi (Sk.halfErr a)), (17, Vi (Sk.total a)), (18, Vi (Sk.check a)), (19, Vi (Sk.check a)), (20, Vi (Sk.keyErr a key)), (21, Vi v), (23, Vi (Sk.check a)), (24, .pointer (some ⟨B21, 0, none⟩)), (25, .pointer (some ⟨B22, 0, none⟩)), (26, .pointer (some ⟨B23, 0, none⟩)), (27, Vi about), (28, Vi (Sk.sum (a.counts.getD 0 []))), (31, Vi (r : Int)), (32, Vi (k : Int))])
     (fun ⟨k, hf, ahf_0, chf_0, Shf_0⟩ => [ownN tInt Shf_0 ahf_0 chf_0 hf.counts, ownN tInt (fun _ => False) none nc0 ([]), ownN tInt (fun _ => False) none nc0 ([]), ownN tInt Sad_0 aad_0 cad_0 ad.counts, box B23 [Vi hf.wide, .slice ahf_0 hf.counts.length chf_0.n] 24, box B22 [Vi 0, .slice none 0 0] 24, box B21 [Vi ad.wide, .slice aad_0 ad.counts.length cad_0.n] 24, box B20 [Vi ((Sk.halve a).wide), .slice a17 ((Sk.halve a).counts).length c18.n] 24, ownN tInt S15 a17 c18 ((Sk.halve a).counts), box B14 [Vi ((Sk.merge a b).wide), .slice a11 ((Sk.merge a b).counts).length c12.n] 24, ownN tInt S9 a11 c12 ((Sk.merge a b).counts), box B8 [Vi ((Sk.add a key many).wide), .slice a5 ((Sk.add a key many).counts).length c6.n] 24, ownN tInt S3 a5 c6 ((Sk.add a key many).counts), box B2 [Vi b.wide, .slice ab_0 b.counts.length cb_0.n] 24, box B1 [Vi a.wide, .slice aa_0 a.counts.length ca_0.n] 24, base w0])
     (fun ⟨k, hf, ahf_0, chf_0, Shf_0⟩ => k ≤ a.wide.toNat ∧ hf.wide = a.wide ∧ Sk.PR Sk.halfF a.counts hf.counts r k)
     (fun ⟨k, hf, ahf_0, chf_0, Shf_0⟩ => a.wide.toNat - k)
     (0, hf, ahf_0, chf_0, Shf_0) ?_ (sr (sr (sr (sr (sr (sr (sr (sr (sr (sr (sr (sr (sr (sr (sr (sr (sr (sr (sr (sr (sr (sr (sr (Sub.nil _)))))))))))))))))))))))) (fun _ hw => hw) ?_
    ·exact ⟨Nat.zero_le _, hO⟩
    rintro ⟨k, hf, ahf_0, chf_0, Shf_0⟩ hI K hK50
    show SC _ _ Try.prog 290 w0 _ _ [(4, .pointer (some ⟨B1, 0, none⟩)), (5, .pointer (some ⟨B2, 0, none⟩)), (9, .pointer (some ⟨B8, 0, none⟩)), (10, Vi (Sk.addErr a key many)), (11, Vi (Sk.est a key)), (12, Vi (Sk.keyErr a key)), (13, .pointer (some ⟨B14, 0, none⟩)), (14, Vi (Sk.mrgErr a b)), (15, .pointer (some ⟨B20, 0, none⟩)), (16, Vi (Sk.halfErr a)), (17, Vi (Sk.total a)), (18, Vi (Sk.check a)), (19, Vi (Sk.check a)), (20, Vi (Sk.keyErr a key)), (21, Vi v), (23, Vi (Sk.check a)), (24, .pointer (some ⟨B21, 0, none⟩)), (25, .pointer (some ⟨B22, 0, none⟩)), (26, .pointer (some ⟨B23, 0, none⟩)), (27, Vi about), (28, Vi (Sk.sum (a.counts.getD 0 []))), (31, Vi (r : Int)), (32, Vi (k : Int))] [ownN tInt Shf_0 ahf_0 chf_0 hf.counts, ownN tInt (fun _ => False) none nc0 ([]), ownN tInt (fun _ => False) none nc0 ([]), ownN tInt Sad_0 aad_0 cad_0 ad.counts, box B23 [Vi hf.wide, .slice ahf_0 hf.counts.length chf_0.n] 24, box B22 [Vi 0, .slice none 0 0] 24, box B21 [Vi ad.wide, .slice aad_0 ad.counts.length cad_0.n] 24, box B20 [Vi ((Sk.halve a).wide), .slice a17 ((Sk.halve a).counts).length c18.n] 24, ownN tInt S15 a17 c18 ((Sk.halve a).counts), box B14 [Vi ((Sk.merge a b).wide), .slice a11 ((Sk.merge a b).counts).length c12.n] 24, ownN tInt S9 a11 c12 ((Sk.merge a b).counts), box B8 [Vi ((Sk.add a key many).wide), .slice a5 ((Sk.add a key many).counts).length c6.n] 24, ownN tInt S3 a5 c6 ((Sk.add a key many).counts), box B2 [Vi b.wide, .slice ab_0 b.counts.length cb_0.n] 24, box B1 [Vi a.wide, .slice aa_0 a.counts.length ca_0.n] 24, base w0]
    refine c_seq (c_seq (c_region ?_))
    refine o_mv rfl rfl ?_
    refine o_p (p_fieldAddr (j' := 0) rfl fo24_0 rfl) ?_
    refine o_p (p_load (i := 14) (v := Vi a.wide) rfl rfl sh3 rfl) ?_
    refine o_p (p_lt rfl rfl) ?_
    refine o_nil (q_then ?_)
    refine c_cond rfl (fun hc51 => ?_) (fun hc51 => ?_)
    ·simp only [decide_eq_true_eq] at hc51
     have hkl := hc51
     have hhl := hI.2.2.len
     have hhr := hI.2.2.rlen r
     have hvv := hI.2.2.cur (by omega) hok
     try have hvb := Sk.el_bd (hokb.bd _ (Sk.row_mem (show r < b.counts.length by omega))) (show k < (b.counts.getD r []).length by omega)
     refine c_skip (q_then (c_seq (c_block ?_)))
     refine c_held hmix [ownNE tInt Shf_0 ahf_0 chf_0 hf.counts, ownN tInt (fun _ => False) none nc0 ([]), ownN tInt (fun _ => False) none nc0 ([]), ownN tInt Sad_0 aad_0 cad_0 ad.counts, box B23 [Vi hf.wide, .slice ahf_0 hf.counts.length chf_0.n] 24, box B22 [Vi 0, .slice none 0 0] 24, box B21 [Vi ad.wide, .slice aad_0 ad.counts.length cad_0.n] 24, box B20 [Vi ((Sk.halve a).wide), .slice a17 ((Sk.halve a).counts).length c18.n] 24, ownN tInt S15 a17 c18 ((Sk.halve a).counts), box B14 [Vi ((Sk.merge a b).wide), .slice a11 ((Sk.merge a b).counts).length c12.n] 24, ownN tInt S9 a11 c12 ((Sk.merge a b).counts), box B8 [Vi ((Sk.add a key many).wide), .slice a5 ((Sk.add a key many).counts).length c6.n] 24, ownN tInt S3 a5 c6 ((Sk.add a key many).counts), box B2 [Vi b.wide, .slice ab_0 b.counts.length cb_0.n] 24, box B1 [Vi a.wide, .slice aa_0 a.counts.length ca_0.n] 24, base w0] rfl rfl ?_
     refine h_tk (i := 0) (ls := #[T1,F0,F0,F0,F0,F0,F0,F0,F0,F0,F0,F0,F0,F0,F0,F0,F0]) rfl (p_fieldAddr (j' := 1) rfl fo24_1 rfl) (fun _ hw => HeapIs.drop (HeapIs.toNE (i := 0) (T := tInt) (LL0 := hf.counts) rfl (by first | exact Shape.refl _ | exact Shape.set) hw) (lr)) ?_
     refine h_tk (i := 1) (ls := #[T1,T1,F0,F0,F0,F0,F0,F0,F0,F0,F0,F0,F0,F0,F0,F0,F0]) rfl (p_load (i := 4) (v := .slice ahf_0 hf.counts.length chf_0.n) rfl rfl sh22 rfl) (fun _ hw => HeapIs.drop (HeapIs.toNE (i := 0) (T := tInt) (LL0 := hf.counts) rfl (by first | exact Shape.refl _ | exact Shape.set) hw) (lr)) ?_
     refine h_tk (i := 2) (ls := #[T1,T1,T1,F0,F0,F0,F0,F0,F0,F0,F0,F0,F0,F0,F0,F0,F0]) rfl (p_move rfl) (fun _ hw => HeapIs.drop (HeapIs.toNE (i := 0) (T := tInt) (LL0 := hf.counts) rfl (by first | exact Shape.refl _ | exact Shape.set) hw) (lr)) ?_
     refine h_tk (i := 3) (ls := #[T1,T1,T1,T1,F0,F0,F0,F0,F0,F0,F0,F0,F0,F0,F0,F0,F0]) rfl (p_indexAddrNE (T := tInt) (c := chf_0) (LL := hf.counts) (i := (r : Int)) (j := 0) rfl rfl rfl Try.underlying22 sz37 (by first | omega | decide) (by first | omega | decide)) (fun _ hw => HeapIs.drop (HeapIs.toNE (i := 0) (T := tInt) (LL0 := hf.counts) rfl (by first | exact Shape.refl _ | exact Shape.set) hw) (lr)) ?_
     refine h_tk (i := 4) (ls := #[T1,T1,T1,T1,T1,F0,F0,F0,F0,F0,F0,F0,F0,F0,F0,F0,F0]) rfl (p_loadNE (T := tInt) (c := chf_0) (LL := hf.counts) (i := r) (j := 0) rfl rfl (by first | assumption | omega | decide) sh37) (fun _ hw => HeapIs.drop (HeapIs.toNE (i := 0) (T := tInt) (LL0 := hf.counts) rfl (by first | exact Shape.refl _ | exact Shape.set) hw) (lr)) ?_
     refine h_tk (i := 5) (ls := #[T1,T1,T1,T1,T1,T1,F0,F0,F0,F0,F0,F0,F0,F0,F0,F0,F0]) rfl (p_move rfl) (fun _ hw => HeapIs.drop (HeapIs.toNE (i := 0) (T := tInt) (LL0 := hf.counts) rfl (by first | exact Shape.refl _ | exact Shape.set) hw) (lr)) ?_
     refine h_tk (i := 6) (ls := #[T1,T1,T1,T1,T1,T1,T1,F0,F0,F0,F0,F0,F0,F0,F0,F0,F0]) rfl (p_fieldAddr (j' := 1) rfl fo24_1 rfl) (fun _ hw => HeapIs.drop (HeapIs.toNE (i := 0) (T := tInt) (LL0 := hf.counts) rfl (by first | exact Shape.refl _ | exact Shape.set) hw) (lr)) ?_
     refine h_tk (i := 7) (ls := #[T1,T1,T1,T1,T1,T1,T1,T1,F0,F0,F0,F0,F0,F0,F0,F0,F0]) rfl (p_load (i := 4) (v := .slice ahf_0 hf.counts.length chf_0.n) rfl rfl sh22 rfl) (fun _ hw => HeapIs.drop (HeapIs.toNE (i := 0) (T := tInt) (LL0 := hf.counts) rfl (by first | exact Shape.refl _ | exact Shape.set) hw) (lr)) ?_
     refine h_tk (i := 8) (ls := #[T1,T1,T1,T1,T1,T1,T1,T1,T1,F0,F0,F0,F0,F0,F0,F0,F0]) rfl (p_move rfl) (fun _ hw => HeapIs.drop (HeapIs.toNE (i := 0) (T := tInt) (LL0 := hf.counts) rfl (by first | exact Shape.refl _ | exact Shape.set) hw) (lr)) ?_
     refine h_tk (i := 9) (ls := #[T1,T1,T1,T1,T1,T1,T1,T1,T1,T1,F0,F0,F0,F0,F0,F0,F0]) rfl (p_indexAddrNE (T := tInt) (c := chf_0) (LL := hf.counts) (i := (r : Int)) (j := 0) rfl rfl rfl Try.underlying22 sz37 (by first | omega | decide) (by first | omega | decide)) (fun _ hw => HeapIs.drop (HeapIs.toNE (i := 0) (T := tInt) (LL0 := hf.counts) rfl (by first | exact Shape.refl _ | exact Shape.set) hw) (lr)) ?_
     refine h_tk (i := 10) (ls := #[T1,T1,T1,T1,T1,T1,T1,T1,T1,T1,T1,F0,F0,F0,F0,F0,F0]) rfl (p_loadNE (T := tInt) (c := chf_0) (LL := hf.counts) (i := r) (j := 0) rfl rfl (by first | assumption | omega | decide) sh37) (fun _ hw => HeapIs.drop (HeapIs.toNE (i := 0) (T := tInt) (LL0 := hf.counts) rfl (by first | exact Shape.refl _ | exact Shape.set) hw) (lr)) ?_
     refine h_tk (i := 11) (ls := #[T1,T1,T1,T1,T1,T1,T1,T1,T1,T1,T1,T1,F0,F0,F0,F0,F0]) rfl (p_move rfl) (fun _ hw => HeapIs.drop (HeapIs.toNE (i := 0) (T := tInt) (LL0 := hf.counts) rfl (by first | exact Shape.refl _ | exact Shape.set) hw) (lr)) ?_
     refine h_tk (i := 12) (ls := #[T1,T1,T1,T1,T1,T1,T1,T1,T1,T1,T1,T1,T1,F0,F0,F0,F0]) rfl (p_indexAddrRowNE (T := tInt) (c := chf_0) (LL := hf.counts) (k := r) (i := (k : Int)) (j := 0) rfl rfl rfl (by omega) Try.underlying37 sz3 (by omega) (by omega)) (fun _ hw => HeapIs.drop (HeapIs.toNE (i := 0) (T := tInt) (LL0 := hf.counts) rfl (by first | exact Shape.refl _ | exact Shape.set) hw) (lr)) ?_
     refine h_one (i := 13) (ls := #[T1,T1,T1,T1,T1,T1,T1,T1,T1,T1,T1,T1,T1,T1,F0,F0,F0]) (by kernel_rfl) rfl rfl ?_
     refine o_p (p_loadE1 (i := k) (T := tInt) (L := (hf.counts.getD r [])) (v := Vi ((hf.counts.getD r []).getD k default)) rfl (rd_rowN (i := r) (rd_ownN (i := 0) rfl) (by first | assumption | omega)) (by first | assumption | omega) sh3 (congrArg tInt.enc (getd_at (by first | assumption | omega) default))) ?_
     refine o_nil ?_
     refine h_next (fun _ hw => HeapIs.drop (HeapIs.toNE (i := 0) (T := tInt) (LL0 := hf.counts) rfl (by first | exact Shape.refl _ | exact Shape.set) hw) (lr)) ?_
     refine h_tk (i := 14) (ls := #[T1,T1,T1,T1,T1,T1,T1,T1,T1,T1,T1,T1,T1,T1,T1,F0,F0]) rfl (p_quob (p := ((hf.counts.getD r []).getD k default)) (q := 2) rfl rfl (by decide) (by have h9 := Int.tdiv_eq_ediv_of_nonneg (a := (hf.counts.getD r []).getD k default) (b := 2) (by omega); omega)) (fun _ hw => HeapIs.drop (HeapIs.toNE (i := 0) (T := tInt) (LL0 := hf.counts) rfl (by first | exact Shape.refl _ | exact Shape.set) hw) (lr)) ?_
     refine h_tk (i := 15) (ls := #[T1,T1,T1,T1,T1,T1,T1,T1,T1,T1,T1,T1,T1,T1,T1,T1,F0]) rfl (p_indexAddrRowNE (T := tInt) (c := chf_0) (LL := hf.counts) (k := r) (i := (k : Int)) (j := 0) rfl rfl rfl (by omega) Try.underlying37 sz3 (by omega) (by omega)) (fun _ hw => HeapIs.drop (HeapIs.toNE (i := 0) (T := tInt) (LL0 := hf.counts) rfl (by first | exact Shape.refl _ | exact Shape.set) hw) (lr)) ?_
     refine h_one (i := 16) (ls := #[T1,T1,T1,T1,T1,T1,T1,T1,T1,T1,T1,T1,T1,T1,T1,T1,T1]) (by kernel_rfl) rfl rfl ?_
     refine o_storeElW (k := r) (T := tInt) (idx := k) (v := Vi (((hf.counts.getD r []).getD k default).tdiv 2)) (vs := [Vi (((hf.counts.getD r []).getD k default).tdiv 2)]) (z := (((hf.counts.getD r []).getD k default).tdiv 2)) rfl rfl rfl (by first | assumption | omega | (simp only [List.length_set]; omega)) (by first | assumption | omega | (simp only [List.length_set]; omega)) sz3 rfl rfl rfl rfl (Sub.refl _) ?_
     refine o_nil ?_
     refine h_next (fun _ hw => HeapIs.drop (HeapIs.toNE (i := 0) (T := tInt) (LL0 := hf.counts) rfl (by first | exact Shape.refl _ | exact Shape.set) hw) (lr)) ?_
     refine h_done (by kernel_rfl) ?_
     refine q_cast (F' := [(4, .pointer (some ⟨B1, 0, none⟩)), (5, .pointer (some ⟨B2, 0, none⟩)), (9, .pointer (some ⟨B8, 0, none⟩)), (10, Vi (Sk.addErr a key many)), (11, Vi (Sk.est a key)), (12, Vi (Sk.keyErr a key)), (13, .pointer (some ⟨B14, 0, none⟩)), (14, Vi (Sk.mrgErr a b)), (15, .pointer (some ⟨B20, 0, none⟩)), (16, Vi (Sk.halfErr a)), (17, Vi (Sk.total a)), (18, Vi (Sk.check a)), (19, Vi (Sk.check a)), (20, Vi (Sk.keyErr a key)), (21, Vi v), (23, Vi (Sk.check a)), (24, .pointer (some ⟨B21, 0, none⟩)), (25, .pointer (some ⟨B22, 0, none⟩)), (26, .pointer (some ⟨B23, 0, none⟩)), (27, Vi about), (28, Vi (Sk.sum (a.counts.getD 0 []))), (31, Vi (r : Int)), (32, Vi (k : Int))]) (H := [ownN tInt Shf_0 ahf_0 chf_0 (hf.counts.set r ((hf.counts.getD r []).set k (((hf.counts.getD r []).getD k default).tdiv 2))), ownN tInt (fun _ => False) none nc0 ([]), ownN tInt (fun _ => False) none nc0 ([]), ownN tInt Sad_0 aad_0 cad_0 ad.counts, box B23 [Vi hf.wide, .slice ahf_0 hf.counts.length chf_0.n] 24, box B22 [Vi 0, .slice none 0 0] 24, box B21 [Vi ad.wide, .slice aad_0 ad.counts.length cad_0.n] 24, box B20 [Vi ((Sk.halve a).wide), .slice a17 ((Sk.halve a).counts).length c18.n] 24, ownN tInt S15 a17 c18 ((Sk.halve a).counts), box B14 [Vi ((Sk.merge a b).wide), .slice a11 ((Sk.merge a b).counts).length c12.n] 24, ownN tInt S9 a11 c12 ((Sk.merge a b).counts), box B8 [Vi ((Sk.add a key many).wide), .slice a5 ((Sk.add a key many).counts).length c6.n] 24, ownN tInt S3 a5 c6 ((Sk.add a key many).counts), box B2 [Vi b.wide, .slice ab_0 b.counts.length cb_0.n] 24, box B1 [Vi a.wide, .slice aa_0 a.counts.length ca_0.n] 24, base w0]) (H' := [ownN tInt Shf_0 ahf_0 chf_0 (hf.counts.set r ((hf.counts.getD r []).set k (((hf.counts.getD r []).getD k default).tdiv 2))), ownN tInt (fun _ => False) none nc0 ([]), ownN tInt (fun _ => False) none nc0 ([]), ownN tInt Sad_0 aad_0 cad_0 ad.counts, box B23 [Vi hf.wide, .slice ahf_0 (hf.counts.set r ((hf.counts.getD r []).set k (((hf.counts.getD r []).getD k default).tdiv 2))).length chf_0.n] 24, box B22 [Vi 0, .slice none 0 0] 24, box B21 [Vi ad.wide, .slice aad_0 ad.counts.length cad_0.n] 24, box B20 [Vi ((Sk.halve a).wide), .slice a17 ((Sk.halve a).counts).length c18.n] 24, ownN tInt S15 a17 c18 ((Sk.halve a).counts), box B14 [Vi ((Sk.merge a b).wide), .slice a11 ((Sk.merge a b).counts).length c12.n] 24, ownN tInt S9 a11 c12 ((Sk.merge a b).counts), box B8 [Vi ((Sk.add a key many).wide), .slice a5 ((Sk.add a key many).counts).length c6.n] 24, ownN tInt S3 a5 c6 ((Sk.add a key many).counts), box B2 [Vi b.wide, .slice ab_0 b.counts.length cb_0.n] 24, box B1 [Vi a.wide, .slice aa_0 a.counts.length ca_0.n] 24, base w0]) (sr (sr (sr (sr (sr (sr (sr (sr (sr (sr (sr (sr (sr (sr (sr (sr (sr (sr (sr (sr (sr (sr (sr (Sub.nil _)))))))))))))))))))))))) (by simp only [List.length_set, List.length_reverse]) ?_
     refine q_block_normal (q_then ?_)
     refine c_region ?_
     refine o_mv rfl rfl ?_
     refine o_p (p_addb rfl rfl (by omega)) ?_
     refine o_as rfl rfl ?_
     refine o_nil ?_
     refine q_round hK50 (k + 1, (⟨hf.wide, (hf.counts.set r ((hf.counts.getD r []).set k (((hf.counts.getD r []).getD k default).tdiv 2)))⟩ : DSketch), ahf_0, chf_0, Shf_0) ?_ ?_ ?_ ?_
     ·clear hK50
      exact ⟨by omega, hI.2.1, hI.2.2.next (by omega) (by omega) rfl⟩
     ·(try dsimp only); omega
     ·exact sr (sr (sr (sr (sr (sr (sr (sr (sr (sr (sr (sr (sr (sr (sr (sr (sr (sr (sr (sr (sr (sr (sr (Sub.nil _)))))))))))))))))))))))
     ·exact pk [0, 1, 2, 3, 4, 5, 6, 7, 8, 9, 10, 11, 12, 13, 14, 15]
    ·simp only [decide_eq_false_iff_not, Int.not_lt] at hc51
     refine c_exit ?_
     refine q_then_exit (q_then_exit (q_block_exit (q_block_normal (q_then ?_))))
     refine c_region ?_
     refine o_mv rfl rfl ?_
     refine o_p (p_addb rfl rfl (by omega)) ?_
     refine o_as rfl rfl ?_
     refine o_nil ?_
     refine q_round hK48 (r + 1, hf, ahf_0, chf_0, Shf_0) ?_ ?_ ?_ ?_
     ·clear hK48
      exact ⟨hI.2.1, hI.2.2.row (by omega)⟩
     ·(try dsimp only); omega
     ·exact sr (sr (sr (sr (sr (sr (sr (sr (sr (sr (sr (sr (sr (sr (sr (sr (sr (sr (sr (sr (sr (sr (Sub.nil _))))))))))))))))))))))
     ·exact pk [0, 1, 2, 3, 4, 5, 6, 7, 8, 9, 10, 11, 12, 13, 14, 15]
   ·simp only [decide_eq_false_iff_not, Int.not_lt] at hc49
    have hhl := hI.2.len
    have hho := Sk.half_o hca hI.1 hI.2 (by omega)
    have hev := hI.2.vals hvals
    refine c_exit ?_
    refine q_then_exit (q_then_exit (q_block_exit (q_then ?_)))
    refine c_seq (c_seq (c_region ?_))
    refine o_p (p_fieldAddr (j' := 1) rfl fo24_1 rfl) ?_
    refine o_p (p_load (i := 4) (v := .slice ahf_0 hf.counts.length chf_0.n) rfl rfl sh22 rfl) ?_
    refine o_call0 (v := .bool (Sk.even hf.counts)) rfl (sketchEven_ok hf.counts ahf_0 chf_0 (by first | assumption | exact hform.vals)) hf24 (fun w hw => (rd_ownN (i := 0) rfl) w hw) rfl ?_
    refine o_p (p_not (b := (Sk.even hf.counts)) rfl) ?_
    refine o_nil (q_then ?_)
    refine c_join (G := Int)
     (fun o => [(4, .pointer (some ⟨B1, 0, none⟩)), (5, .pointer (some ⟨B2, 0, none⟩)), (9, .pointer (some ⟨B8, 0, none⟩)), (10, Vi (Sk.addErr a key many)), (11, Vi (Sk.est a key)), (12, Vi (Sk.keyErr a key)), (13, .pointer (some ⟨B14, 0, none⟩)), (14, Vi (Sk.mrgErr a b)), (15, .pointer (some ⟨B20, 0, none⟩)), (16, Vi (Sk.halfErr a)), (17, Vi (Sk.total a)), (18, Vi (Sk.check a)), (19, Vi (Sk.check a)), (20, Vi (Sk.keyErr a key)), (21, Vi v), (23, Vi o), (24, .pointer (some ⟨B21, 0, none⟩)), (25, .pointer (some ⟨B22, 0, none⟩)), (26, .pointer (some ⟨B23, 0, none⟩)), (27, Vi about), (28, Vi (Sk.sum (a.counts.getD 0 [])))])
     (fun o => [ownN tInt Shf_0 ahf_0 chf_0 hf.counts, ownN tInt (fun _ => False) none nc0 ([]), ownN tInt (fun _ => False) none nc0 ([]), ownN tInt Sad_0 aad_0 cad_0 ad.counts, box B23 [Vi hf.wide, .slice ahf_0 hf.counts.length chf_0.n] 24, box B22 [Vi 0, .slice none 0 0] 24, box B21 [Vi ad.wide, .slice aad_0 ad.counts.length cad_0.n] 24, box B20 [Vi ((Sk.halve a).wide), .slice a17 ((Sk.halve a).counts).length c18.n] 24, ownN tInt S15 a17 c18 ((Sk.halve a).counts), box B14 [Vi ((Sk.merge a b).wide), .slice a11 ((Sk.merge a b).counts).length c12.n] 24, ownN tInt S9 a11 c12 ((Sk.merge a b).counts), box B8 [Vi ((Sk.add a key many).wide), .slice a5 ((Sk.add a key many).counts).length c6.n] 24, ownN tInt S3 a5 c6 ((Sk.add a key many).counts), box B2 [Vi b.wide, .slice ab_0 b.counts.length cb_0.n] 24, box B1 [Vi a.wide, .slice aa_0 a.counts.length ca_0.n] 24, base w0])
     (fun o => o = Sk.halfErr a ∧ (o = 0 → hf = Sk.halve a))
     (fun K hK53 => ?_) ?_
    ·refine c_cond rfl (fun hc54 => ?_) (fun hc54 => ?_)
     ·simp only [Bool.not_eq_true'] at hc54
      have hevn := hc54
      refine c_region ?_
      refine o_as rfl rfl ?_
      refine o_nil ?_
      refine q_join hK53 4 ?_ (sr (sr (sr (sr (sr (sr (sr (sr (sr (sr (sr (sr (sr (sr (sr (sr (sr (sr (sr (sr (sr (Sub.nil _)))))))))))))))))))))) (pk [0, 1, 2, 3, 4, 5, 6, 7, 8, 9, 10, 11, 12, 13, 14, 15])
      clear hK53
      first | exact ⟨(hho.2 hevn).symm, fun h9 => by cases h9⟩ | exact ⟨hca.trans (hho.1 hevn).1.symm, fun _ => (hho.1 hevn).2⟩
     ·simp only [Bool.not_eq_false'] at hc54
      have hevn := hc54
      refine c_skip ?_
      refine q_join hK53 (Sk.check a) ?_ (sr (sr (sr (sr (sr (sr (sr (sr (sr (sr (sr (sr (sr (sr (sr (sr (sr (sr (sr (sr (sr (Sub.nil _)))))))))))))))))))))) (pk [0, 1, 2, 3, 4, 5, 6, 7, 8, 9, 10, 11, 12, 13, 14, 15])
      clear hK53
      first | exact ⟨(hho.2 hevn).symm, fun h9 => by cases h9⟩ | exact ⟨hca.trans (hho.1 hevn).1.symm, fun _ => (hho.1 hevn).2⟩
    rintro o hj3
    show SQ _ 290 w0 _ _ [(4, .pointer (some ⟨B1, 0, none⟩)), (5, .pointer (some ⟨B2, 0, none⟩)), (9, .pointer (some ⟨B8, 0, none⟩)), (10, Vi (Sk.addErr a key many)), (11, Vi (Sk.est a key)), (12, Vi (Sk.keyErr a key)), (13, .pointer (some ⟨B14, 0, none⟩)), (14, Vi (Sk.mrgErr a b)), (15, .pointer (some ⟨B20, 0, none⟩)), (16, Vi (Sk.halfErr a)), (17, Vi (Sk.total a)), (18, Vi (Sk.check a)), (19, Vi (Sk.check a)), (20, Vi (Sk.keyErr a key)), (21, Vi v), (23, Vi o), (24, .pointer (some ⟨B21, 0, none⟩)), (25, .pointer (some ⟨B22, 0, none⟩)), (26, .pointer (some ⟨B23, 0, none⟩)), (27, Vi about), (28, Vi (Sk.sum (a.counts.getD 0 [])))] [ownN tInt Shf_0 ahf_0 chf_0 hf.counts, ownN tInt (fun _ => False) none nc0 ([]), ownN tInt (fun _ => False) none nc0 ([]), ownN tInt Sad_0 aad_0 cad_0 ad.counts, box B23 [Vi hf.wide, .slice ahf_0 hf.counts.length chf_0.n] 24, box B22 [Vi 0, .slice none 0 0] 24, box B21 [Vi ad.wide, .slice aad_0 ad.counts.length cad_0.n] 24, box B20 [Vi ((Sk.halve a).wide), .slice a17 ((Sk.halve a).counts).length c18.n] 24, ownN tInt S15 a17 c18 ((Sk.halve a).counts), box B14 [Vi ((Sk.merge a b).wide), .slice a11 ((Sk.merge a b).counts).length c12.n] 24, ownN tInt S9 a11 c12 ((Sk.merge a b).counts), box B8 [Vi ((Sk.add a key many).wide), .slice a5 ((Sk.add a key many).counts).length c6.n] 24, ownN tInt S3 a5 c6 ((Sk.add a key many).counts), box B2 [Vi b.wide, .slice ab_0 b.counts.length cb_0.n] 24, box B1 [Vi a.wide, .slice aa_0 a.counts.length ca_0.n] 24, base w0]
    refine q_then (c_seq (c_seq (c_region ?_)))
    refine o_p (p_load_agg (i := 13) (vs := [Vi b.wide, .slice ab_0 b.counts.length cb_0.n]) rfl rfl sh24 rfl rfl) ?_
    refine o_call0 (v := Vi (Sk.check b)) rfl (sketchCheck_ok b ab_0 cb_0) hf18 (fun w hw => (rd_baseN (i := 15) rfl hb_0) w hw) rfl ?_
    refine o_as rfl rfl ?_
    refine o_nil (q_then (c_seq (c_region ?_)))
    refine o_mv rfl rfl ?_
    refine o_p (p_eq rfl rfl) ?_
    refine o_mv rfl rfl ?_
    refine o_and (p := 185) 15 ((a.wide != b.wide) || ((a.counts.length : Int) != (b.counts.length : Int))) ?_ ?_ ?_
    ·intro hb55 hk
     simp only [beq_iff_eq] at hb55
     refine o_unguard 170 rfl rfl ?_
     refine o_p (p_fieldAddr (j' := 0) rfl fo24_0 rfl) ?_
     refine o_unguard 170 rfl rfl ?_
     refine o_p (p_load (i := 14) (v := Vi a.wide) rfl rfl sh3 rfl) ?_
     refine o_unguard 170 rfl rfl ?_
     refine o_p (p_fieldAddr (j' := 0) rfl fo24_0 rfl) ?_
     refine o_unguard 170 rfl rfl ?_
     refine o_p (p_load (i := 13) (v := Vi b.wide) rfl rfl sh3 rfl) ?_
     refine o_unguard 170 rfl rfl ?_
     refine o_p (p_ne rfl rfl) ?_
     refine o_unguard 170 rfl rfl ?_
     refine o_mv rfl rfl ?_
     refine o_or (p := 184) 8 ((a.counts.length : Int) != (b.counts.length : Int)) ?_ ?_ ?_
     ·intro hb56 hk
      simp only [bne_eq_false_iff_eq] at hb56
      refine o_unguard 176 rfl rfl ?_
      refine o_p (p_fieldAddr (j' := 1) rfl fo24_1 rfl) ?_
      refine o_unguard 176 rfl rfl ?_
      refine o_p (p_load (i := 14) (v := .slice aa_0 a.counts.length ca_0.n) rfl rfl sh22 rfl) ?_
      refine o_unguard 176 rfl rfl ?_
      refine o_p (p_len_slice rfl rfl Try.underlying22) ?_
      refine o_unguard 176 rfl rfl ?_
      refine o_p (p_fieldAddr (j' := 1) rfl fo24_1 rfl) ?_
      refine o_unguard 176 rfl rfl ?_
      refine o_p (p_load (i := 13) (v := .slice ab_0 b.counts.length cb_0.n) rfl rfl sh22 rfl) ?_
      refine o_unguard 176 rfl rfl ?_
      refine o_p (p_len_slice rfl rfl Try.underlying22) ?_
      refine o_unguard 176 rfl rfl ?_
      refine o_p (p_ne rfl rfl) ?_
      refine o_unguard 170 rfl rfl ?_
      refine o_pf rfl rfl rfl ?_
      exact o_sub (sr (Sub.skip rfl (Sub.skip rfl (Sub.skip rfl (Sub.skip rfl (Sub.skip rfl (Sub.skip rfl (Sub.skip rfl (Sub.skip rfl (Sub.skip rfl (Sub.refl _))))))))))) hk
     ·intro hb56 hk
      refine o_guard_no rfl 176 rfl rfl rfl rfl rfl ?_
      refine o_guard_no rfl 176 rfl rfl rfl rfl rfl ?_
      refine o_guard_no rfl 176 rfl rfl rfl rfl rfl ?_
      refine o_guard_no rfl 176 rfl rfl rfl rfl rfl ?_
      refine o_guard_no rfl 176 rfl rfl rfl rfl rfl ?_
      refine o_guard_no rfl 176 rfl rfl rfl rfl rfl ?_
      refine o_guard_no rfl 176 rfl rfl rfl rfl rfl ?_
      refine o_unguard 170 rfl rfl ?_
      refine o_pt rfl rfl rfl ?_
      exact o_sub (sr (Sub.skip rfl (Sub.skip rfl (Sub.skip rfl (Sub.skip rfl (Sub.skip rfl (Sub.skip rfl (Sub.skip rfl (Sub.skip rfl (Sub.skip rfl (Sub.refl _))))))))))) hk
     refine o_pt rfl rfl rfl ?_
     exact o_sub (sr (Sub.skip rfl (Sub.skip rfl (Sub.skip rfl (Sub.skip rfl (Sub.skip rfl (Sub.skip rfl (Sub.skip rfl (Sub.skip rfl (Sub.refl _)))))))))) hk
    ·intro hb55 hk
     refine o_guard_no rfl 170 rfl rfl rfl rfl rfl ?_
     refine o_guard_no rfl 170 rfl rfl rfl rfl rfl ?_
     refine o_guard_no rfl 170 rfl rfl rfl rfl rfl ?_
     refine o_guard_no rfl 170 rfl rfl rfl rfl rfl ?_
     refine o_guard_no rfl 170 rfl rfl rfl rfl rfl ?_
     refine o_guard_no rfl 170 rfl rfl rfl rfl rfl ?_
     refine o_guard_no rfl 176 rfl rfl rfl rfl rfl ?_
     refine o_guard_no rfl 176 rfl rfl rfl rfl rfl ?_
     refine o_guard_no rfl 176 rfl rfl rfl rfl rfl ?_
     refine o_guard_no rfl 176 rfl rfl rfl rfl rfl ?_
     refine o_guard_no rfl 176 rfl rfl rfl rfl rfl ?_
     refine o_guard_no rfl 176 rfl rfl rfl rfl rfl ?_
     refine o_guard_no rfl 176 rfl rfl rfl rfl rfl ?_
     refine o_guard_no rfl 170 rfl rfl rfl rfl rfl ?_
     refine o_pf rfl rfl rfl ?_
     exact o_sub (sr (Sub.skip rfl (Sub.skip rfl (Sub.skip rfl (Sub.skip rfl (Sub.skip rfl (Sub.skip rfl (Sub.skip rfl (Sub.skip rfl (Sub.skip rfl (Sub.skip rfl (Sub.skip rfl (Sub.skip rfl (Sub.skip rfl (Sub.skip rfl (Sub.skip rfl (Sub.skip rfl (Sub.refl _)))))))))))))))))) hk
    refine o_nil (q_then ?_)
    refine c_cond rfl (fun hc57 => ?_) (fun hc57 => ?_)
    ·simp only [Bool.and_eq_true, beq_iff_eq, Bool.or_eq_true, bne_iff_ne, ne_eq] at hc57
     have hku := hc57
     refine c_region ?_
     refine o_as rfl rfl ?_
     refine o_nil (q_then (c_seq (c_region ?_)))
     refine o_mv rfl rfl ?_
     refine o_p (p_eq rfl rfl) ?_
     refine o_nil (q_then ?_)
     refine c_false rfl ?_
     refine c_skip ?_
     refine q_join hK41 (7, o, (Sk.sum (a.counts.getD 0 [])), hf, ahf_0, chf_0, Shf_0, (⟨0, []⟩ : DSketch), none, nc0, (fun _ => False)) ?_ (sr (sr (sr (sr (sr (sr (sr (sr (sr (sr (sr (sr (sr (sr (sr (sr (sr (sr (sr (sr (sr (Sub.nil _)))))))))))))))))))))) (pk [1, 0, 3, 4, 5, 6, 7, 8, 9, 10, 11, 12, 13, 14, 15])
     clear hK41
     first | exact Sk.J2.none hnc | exact Sk.J2.mk2 htt hj3 ⟨(Sk.u_bad hca hncb).symm, fun h9 => absurd h9 hncb⟩ | exact Sk.J2.mk2 htt hj3 ⟨(Sk.u_kind hca hku.1 hku.2).symm, fun h9 => by cases h9⟩ | exact Sk.J2.mk2 htt hj3 ⟨(hbu.2 hft).symm, fun h9 => by cases h9⟩ | exact Sk.J2.mk2 htt hj3 ⟨hcb.trans (hbu.1 hft).1.symm, fun _ => (hbu.1 hft).2⟩
    ·simp only [Bool.and_eq_false_iff, beq_eq_false_iff_ne, ne_eq, Bool.or_eq_false_iff, bne_eq_false_iff_eq] at hc57
     have hku := hc57
     refine c_skip (q_then (c_seq (c_region ?_)))
     refine o_mv rfl rfl ?_
     refine o_p (p_eq rfl rfl) ?_
     refine o_nil (q_then ?_)
     refine c_cond rfl (fun hc58 => ?_) (fun hc58 => ?_)
     ·simp only [beq_iff_eq] at hc58
      have hcb := hc58
      have hokb := Sk.check_ok.1 hc58
      have hkd : a.wide = b.wide ∧ (a.counts.length : Int) = b.counts.length := by omega
      refine c_seq (c_region ?_)
      refine o_p (p_load_agg (i := 14) (vs := [Vi a.wide, .slice aa_0 a.counts.length ca_0.n]) rfl rfl sh24 rfl rfl) ?_
      refine o_callM rfl (sketchCopy_ok a aa_0 ca_0 (by first | assumption | exact hok.toForm)) hf20 (fun w hw => (rd_baseN (i := 15) rfl ha_0) w hw) rfl (fun _ _ _ _ ha hA => SlON.agree ha hA) ?_
      rintro ⟨a61, c62⟩ S59
      refine o_know (fun w hw => own_lenN (i := 0) (T := tInt) hw rfl) (fun hlr63 => ?_)
      refine o_storeN (i := 6) (vs := [Vi a.wide, .slice a61 a.counts.length c62.n]) (cs' := [Vi a.wide, .slice a61 a.counts.length c62.n]) rfl rfl rfl sz24 rfl rfl rfl rfl ?_
      refine o_nil (q_then (c_seq (c_seq (c_region ?_))))
      refine o_as rfl rfl ?_
      refine o_nil (q_then (c_block ?_))
      refine c_loop (St := Nat × DSketch × Option Addr × NC × (Nat → Prop))
       (fun ⟨r, bo, abo_0, cbo_0, Sbo_0⟩ => [(4, .pointer (some ⟨B1, 0, none⟩)), (5, .pointer (some ⟨B2, 0, none⟩)), (9, .pointer (some ⟨B8, 0, none⟩)), (10, Vi (Sk.addErr a key many)), (11, Vi (Sk.est a key)), (12, Vi (Sk.keyErr a key)), (13, .pointer (some ⟨B14, 0, none⟩)), (14, Vi (Sk.mrgErr a b)), (15, .pointer (some ⟨B20, 0, none⟩)), (16, Vi (Sk.halfErr a)), (17, Vi (Sk.total a)), (18, Vi (Sk.check a)), (19, Vi (Sk.check a)), (20, Vi (Sk.keyErr a key)), (21, Vi v), (22, Vi (Sk.check b)), (23, Vi o), (24, .pointer (some ⟨B21, 0, none⟩)), (25, .pointer (some ⟨B22, 0, none⟩)), (26, .pointer (some ⟨B23, 0, none⟩)), (27, Vi about), (28, Vi (Sk.sum (a.counts.getD 0 []))), (33, Vi (r : Int))])
       (fun ⟨r, bo, abo_0, cbo_0, Sbo_0⟩ => [ownN tInt Sbo_0 abo_0 cbo_0 bo.counts, ownN tInt Shf_0 ahf_0 chf_0 hf.counts, ownN tInt (fun _ => False) none nc0 ([]), ownN tInt (fun _ => False) none nc0 ([]), ownN tInt Sad_0 aad_0 cad_0 ad.counts, box B23 [Vi hf.wide, .slice ahf_0 hf.counts.length chf_0.n] 24, box B22 [Vi bo.wide, .slice abo_0 bo.counts.length cbo_0.n] 24, box B21 [Vi ad.wide, .slice aad_0 ad.counts.length cad_0.n] 24, box B20 [Vi ((Sk.halve a).wide), .slice a17 ((Sk.halve a).counts).length c18.n] 24, ownN tInt S15 a17 c18 ((Sk.halve a).counts), box B14 [Vi ((Sk.merge a b).wide), .slice a11 ((Sk.merge a b).counts).length c12.n] 24, ownN tInt S9 a11 c12 ((Sk.merge a b).counts), box B8 [Vi ((Sk.add a key many).wide), .slice a5 ((Sk.add a key many).counts).length c6.n] 24, ownN tInt S3 a5 c6 ((Sk.add a key many).counts), box B2 [Vi b.wide, .slice ab_0 b.counts.length cb_0.n] 24, box B1 [Vi a.wide, .slice aa_0 a.counts.length ca_0.n] 24, base w0])
       (fun ⟨r, bo, abo_0, cbo_0, Sbo_0⟩ => bo.wide = a.wide ∧ Sk.PR (Sk.mrgF b.counts) a.counts bo.counts r 0)
       (fun ⟨r, bo, abo_0, cbo_0, Sbo_0⟩ => a.counts.length - r)
       (0, a, a61, c62, S59) ?_ (sr (sr (sr (sr (sr (sr (sr (sr (sr (sr (sr (sr (sr (sr (sr (sr (sr (sr (sr (sr (sr (sr (sr (Sub.nil _)))))))))))))))))))))))) (fun _ hw => hw) ?_
      ·exact ⟨rfl, Sk.PR.start _ _⟩
      rintro ⟨r, bo, abo_0, cbo_0, Sbo_0⟩ hI K hK64
      have hhl0 := hI.2.len
      show SC _ _ Try.prog 290 w0 _ _ [(4, .pointer (some ⟨B1, 0, none⟩)), (5, .pointer (some ⟨B2, 0, none⟩)), (9, .pointer (some ⟨B8, 0, none⟩)), (10, Vi (Sk.addErr a key many)), (11, Vi (Sk.est a key)), (12, Vi (Sk.keyErr a key)), (13, .pointer (some ⟨B14, 0, none⟩)), (14, Vi (Sk.mrgErr a b)), (15, .pointer (some ⟨B20, 0, none⟩)), (16, Vi (Sk.halfErr a)), (17, Vi (Sk.total a)), (18, Vi (Sk.check a)), (19, Vi (Sk.check a)), (20, Vi (Sk.keyErr a key)), (21, Vi v), (22, Vi (Sk.check b)), (23, Vi o), (24, .pointer (some ⟨B21, 0, none⟩)), (25, .pointer (some ⟨B22, 0, none⟩)), (26, .pointer (some ⟨B23, 0, none⟩)), (27, Vi about), (28, Vi (Sk.sum (a.counts.getD 0 []))), (33, Vi (r : Int))] [ownN tInt Sbo_0 abo_0 cbo_0 bo.counts, ownN tInt Shf_0 ahf_0 chf_0 hf.counts, ownN tInt (fun _ => False) none nc0 ([]), ownN tInt (fun _ => False) none nc0 ([]), ownN tInt Sad_0 aad_0 cad_0 ad.counts, box B23 [Vi hf.wide, .slice ahf_0 hf.counts.length chf_0.n] 24, box B22 [Vi bo.wide, .slice abo_0 bo.counts.length cbo_0.n] 24, box B21 [Vi ad.wide, .slice aad_0 ad.counts.length cad_0.n] 24, box B20 [Vi ((Sk.halve a).wide), .slice a17 ((Sk.halve a).counts).length c18.n] 24, ownN tInt S15 a17 c18 ((Sk.halve a).counts), box B14 [Vi ((Sk.merge a b).wide), .slice a11 ((Sk.merge a b).counts).length c12.n] 24, ownN tInt S9 a11 c12 ((Sk.merge a b).counts), box B8 [Vi ((Sk.add a key many).wide), .slice a5 ((Sk.add a key many).counts).length c6.n] 24, ownN tInt S3 a5 c6 ((Sk.add a key many).counts), box B2 [Vi b.wide, .slice ab_0 b.counts.length cb_0.n] 24, box B1 [Vi a.wide, .slice aa_0 a.counts.length ca_0.n] 24, base w0]
      refine c_seq (c_seq (c_region ?_))
      refine o_mv rfl rfl ?_
      refine o_p (p_fieldAddr (j' := 1) rfl fo24_1 rfl) ?_
      refine o_p (p_load (i := 6) (v := .slice abo_0 bo.counts.length cbo_0.n) rfl rfl sh22 rfl) ?_
      refine o_p (p_len_slice rfl rfl Try.underlying22) ?_
      refine o_p (p_lt rfl rfl) ?_
      refine o_nil (q_then ?_)
      refine c_cond rfl (fun hc65 => ?_) (fun hc65 => ?_)
      ·simp only [decide_eq_true_eq] at hc65
       have hO := hI
       have hhl := hI.2.len
       have hrl := hok.row_len (show r < a.counts.length by omega)
       have hrb := hokb.row_len (show r < b.counts.length by omega)
       have hhr := hI.2.rlen r
       refine c_skip (q_then (c_seq (c_block (c_seq (c_region ?_)))))
       refine o_as rfl rfl ?_
       refine o_nil (q_then (c_block ?_))
       refine c_loop (St := Nat × DSketch × Option Addr × NC × (Nat → Prop))
        (fun ⟨k, bo, abo_0, cbo_0, Sbo_0⟩ => [(4, .pointer (some ⟨B1, 0, none⟩)), (5, .pointer (some ⟨B2, 0, none⟩)), (9, .pointer (some ⟨B8, 0, none⟩)), (10, Vi (Sk.addErr a key many)), (11, Vi (Sk.est a key)), (12, Vi (Sk.keyErr a key)), (13, .pointer (some ⟨B14, 0, none⟩)), (14, Vi (Sk.mrgErr a b)), (15, .pointer (some ⟨B20, 0, none⟩)), (16, Vi (Sk.halfErr a)), (17, Vi (Sk.total a)), (18, Vi (Sk.check a)), (19, Vi (Sk.check a)), (20, Vi (Sk.keyErr a key)), (21, Vi v), (22, Vi (Sk.check b)), (23, Vi o), (24, .pointer (some ⟨B21, 0, none⟩)), (25, .pointer (some ⟨B22, 0, none⟩)), (26, .pointer (some ⟨B23, 0, none⟩)), (27, Vi about), (28, Vi (Sk.sum (a.counts.getD 0 []))), (33, Vi (r : Int)), (34, Vi (k : Int))])
        (fun ⟨k, bo, abo_0, cbo_0, Sbo_0⟩ => [ownN tInt Sbo_0 abo_0 cbo_0 bo.counts, ownN tInt Shf_0 ahf_0 chf_0 hf.counts, ownN tInt (fun _ => False) none nc0 ([]), ownN tInt (fun _ => False) none nc0 ([]), ownN tInt Sad_0 aad_0 cad_0 ad.counts, box B23 [Vi hf.wide, .slice ahf_0 hf.counts.length chf_0.n] 24, box B22 [Vi bo.wide, .slice abo_0 bo.counts.length cbo_0.n] 24, box B21 [Vi ad.wide, .slice aad_0 ad.counts.length cad_0.n] 24, box B20 [Vi ((Sk.halve a).wide), .slice a17 ((Sk.halve a).counts).length c18.n] 24, ownN tInt S15 a17 c18 ((Sk.halve a).counts), box B14 [Vi ((Sk.merge a b).wide), .slice a11 ((Sk.merge a b).counts).length c12.n] 24, ownN tInt S9 a11 c12 ((Sk.merge a b).counts), box B8 [Vi ((Sk.add a key many).wide), .slice a5 ((Sk.add a key many).counts).length c6.n] 24, ownN tInt S3 a5 c6 ((Sk.add a key many).counts), box B2 [Vi b.wide, .slice ab_0 b.counts.length cb_0.n] 24, box B1 [Vi a.wide, .slice aa_0 a.counts.length ca_0.n] 24, base w0])
        (fun ⟨k, bo, abo_0, cbo_0, Sbo_0⟩ => k ≤ a.wide.toNat ∧ bo.wide = a.wide ∧ Sk.PR (Sk.mrgF b.counts) a.counts bo.counts r k)
        (fun ⟨k, bo, abo_0, cbo_0, Sbo_0⟩ => a.wide.toNat - k)
        (0, bo, abo_0, cbo_0, Sbo_0) ?_ (sr (sr (sr (sr (sr (sr (sr (sr (sr (sr (sr (sr (sr (sr (sr (sr (sr (sr (sr (sr (sr (sr (sr (sr (Sub.nil _))))))))))))))))))))))))) (fun _ hw => hw) ?_
       ·exact ⟨Nat.zero_le _, hO⟩
       rintro ⟨k, bo, abo_0, cbo_0, Sbo_0⟩ hI K hK66
       show SC _ _ Try.prog 290 w0 _ _ [(4, .pointer (some ⟨B1, 0, none⟩)), (5, .pointer (some ⟨B2, 0, none⟩)), (9, .pointer (some ⟨B8, 0, none⟩)), (10, Vi (Sk.addErr a key many)), (11, Vi (Sk.est a key)), (12, Vi (Sk.keyErr a key)), (13, .pointer (some ⟨B14, 0, none⟩)), (14, Vi (Sk.mrgErr a b)), (15, .pointer (some ⟨B20, 0, none⟩)), (16, Vi (Sk.halfErr a)), (17, Vi (Sk.total a)), (18, Vi (Sk.check a)), (19, Vi (Sk.check a)), (20, Vi (Sk.keyErr a key)), (21, Vi v), (22, Vi (Sk.check b)), (23, Vi o), (24, .pointer (some ⟨B21, 0, none⟩)), (25, .pointer (some ⟨B22, 0, none⟩)), (26, .pointer (some ⟨B23, 0, none⟩)), (27, Vi about), (28, Vi (Sk.sum (a.counts.getD 0 []))), (33, Vi (r : Int)), (34, Vi (k : Int))] [ownN tInt Sbo_0 abo_0 cbo_0 bo.counts, ownN tInt Shf_0 ahf_0 chf_0 hf.counts, ownN tInt (fun _ => False) none nc0 ([]), ownN tInt (fun _ => False) none nc0 ([]), ownN tInt Sad_0 aad_0 cad_0 ad.counts, box B23 [Vi hf.wide, .slice ahf_0 hf.counts.length chf_0.n] 24, box B22 [Vi bo.wide, .slice abo_0 bo.counts.length cbo_0.n] 24, box B21 [Vi ad.wide, .slice aad_0 ad.counts.length cad_0.n] 24, box B20 [Vi ((Sk.halve a).wide), .slice a17 ((Sk.halve a).counts).length c18.n] 24, ownN tInt S15 a17 c18 ((Sk.halve a).counts), box B14 [Vi ((Sk.merge a b).wide), .slice a11 ((Sk.merge a b).counts).length c12.n] 24, ownN tInt S9 a11 c12 ((Sk.merge a b).counts), box B8 [Vi ((Sk.add a key many).wide), .slice a5 ((Sk.add a key many).counts).length c6.n] 24, ownN tInt S3 a5 c6 ((Sk.add a key many).counts), box B2 [Vi b.wide, .slice ab_0 b.counts.length cb_0.n] 24, box B1 [Vi a.wide, .slice aa_0 a.counts.length ca_0.n] 24, base w0]
       refine c_seq (c_seq (c_region ?_))
       refine o_mv rfl rfl ?_
       refine o_p (p_fieldAddr (j' := 0) rfl fo24_0 rfl) ?_
       refine o_p (p_load (i := 15) (v := Vi a.wide) rfl rfl sh3 rfl) ?_
       refine o_p (p_lt rfl rfl) ?_
       refine o_nil (q_then ?_)
       refine c_cond rfl (fun hc67 => ?_) (fun hc67 => ?_)
       ·simp only [decide_eq_true_eq] at hc67
        have hkl := hc67
        have hhl := hI.2.2.len
        have hhr := hI.2.2.rlen r
        have hvv := hI.2.2.cur (by omega) hok
        try have hvb := Sk.el_bd (hokb.bd _ (Sk.row_mem (show r < b.counts.length by omega))) (show k < (b.counts.getD r []).length by omega)
        refine c_skip (q_then (c_seq (c_block ?_)))
        refine c_held hmix [ownNE tInt Sbo_0 abo_0 cbo_0 bo.counts, ownN tInt Shf_0 ahf_0 chf_0 hf.counts, ownN tInt (fun _ => False) none nc0 ([]), ownN tInt (fun _ => False) none nc0 ([]), ownN tInt Sad_0 aad_0 cad_0 ad.counts, box B23 [Vi hf.wide, .slice ahf_0 hf.counts.length chf_0.n] 24, box B22 [Vi bo.wide, .slice abo_0 bo.counts.length cbo_0.n] 24, box B21 [Vi ad.wide, .slice aad_0 ad.counts.length cad_0.n] 24, box B20 [Vi ((Sk.halve a).wide), .slice a17 ((Sk.halve a).counts).length c18.n] 24, ownN tInt S15 a17 c18 ((Sk.halve a).counts), box B14 [Vi ((Sk.merge a b).wide), .slice a11 ((Sk.merge a b).counts).length c12.n] 24, ownN tInt S9 a11 c12 ((Sk.merge a b).counts), box B8 [Vi ((Sk.add a key many).wide), .slice a5 ((Sk.add a key many).counts).length c6.n] 24, ownN tInt S3 a5 c6 ((Sk.add a key many).counts), box B2 [Vi b.wide, .slice ab_0 b.counts.length cb_0.n] 24, box B1 [Vi a.wide, .slice aa_0 a.counts.length ca_0.n] 24, base w0] rfl rfl ?_
        refine h_tk (i := 0) (ls := #[T1,F0,F0,F0,F0,F0,F0,F0,F0,F0,F0,F0,F0,F0,F0,F0,F0,F0,F0]) rfl (p_fieldAddr (j' := 1) rfl fo24_1 rfl) (fun _ hw => HeapIs.drop (HeapIs.toNE (i := 0) (T := tInt) (LL0 := bo.counts) rfl (by first | exact Shape.refl _ | exact Shape.set) hw) (lr)) ?_
        refine h_tk (i := 1) (ls := #[T1,T1,F0,F0,F0,F0,F0,F0,F0,F0,F0,F0,F0,F0,F0,F0,F0,F0,F0]) rfl (p_load (i := 6) (v := .slice abo_0 bo.counts.length cbo_0.n) rfl rfl sh22 rfl) (fun _ hw => HeapIs.drop (HeapIs.toNE (i := 0) (T := tInt) (LL0 := bo.counts) rfl (by first | exact Shape.refl _ | exact Shape.set) hw) (lr)) ?_
        refine h_tk (i := 2) (ls := #[T1,T1,T1,F0,F0,F0,F0,F0,F0,F0,F0,F0,F0,F0,F0,F0,F0,F0,F0]) rfl (p_move rfl) (fun _ hw => HeapIs.drop (HeapIs.toNE (i := 0) (T := tInt) (LL0 := bo.counts) rfl (by first | exact Shape.refl _ | exact Shape.set) hw) (lr)) ?_
        refine h_tk (i := 3) (ls := #[T1,T1,T1,T1,F0,F0,F0,F0,F0,F0,F0,F0,F0,F0,F0,F0,F0,F0,F0]) rfl (p_indexAddrNE (T := tInt) (c := cbo_0) (LL := bo.counts) (i := (r : Int)) (j := 0) rfl rfl rfl Try.underlying22 sz37 (by first | omega | decide) (by first | omega | decide)) (fun _ hw => HeapIs.drop (HeapIs.toNE (i := 0) (T := tInt) (LL0 := bo.counts) rfl (by first | exact Shape.refl _ | exact Shape.set) hw) (lr)) ?_
        refine h_tk (i := 4) (ls := #[T1,T1,T1,T1,T1,F0,F0,F0,F0,F0,F0,F0,F0,F0,F0,F0,F0,F0,F0]) rfl (p_loadNE (T := tInt) (c := cbo_0) (LL := bo.counts) (i := r) (j := 0) rfl rfl (by first | assumption | omega | decide) sh37) (fun _ hw => HeapIs.drop (HeapIs.toNE (i := 0) (T := tInt) (LL0 := bo.counts) rfl (by first | exact Shape.refl _ | exact Shape.set) hw) (lr)) ?_
        refine h_tk (i := 5) (ls := #[T1,T1,T1,T1,T1,T1,F0,F0,F0,F0,F0,F0,F0,F0,F0,F0,F0,F0,F0]) rfl (p_move rfl) (fun _ hw => HeapIs.drop (HeapIs.toNE (i := 0) (T := tInt) (LL0 := bo.counts) rfl (by first | exact Shape.refl _ | exact Shape.set) hw) (lr)) ?_
        refine h_tk (i := 6) (ls := #[T1,T1,T1,T1,T1,T1,T1,F0,F0,F0,F0,F0,F0,F0,F0,F0,F0,F0,F0]) rfl (p_indexAddrRowNE (T := tInt) (c := cbo_0) (LL := bo.counts) (k := r) (i := (k : Int)) (j := 0) rfl rfl rfl (by omega) Try.underlying37 sz3 (by omega) (by omega)) (fun _ hw => HeapIs.drop (HeapIs.toNE (i := 0) (T := tInt) (LL0 := bo.counts) rfl (by first | exact Shape.refl _ | exact Shape.set) hw) (lr)) ?_
        refine h_tk (i := 8) (ls := #[T1,T1,T1,T1,T1,T1,T1,F0,T1,F0,F0,F0,F0,F0,F0,F0,F0,F0,F0]) rfl (p_fieldAddr (j' := 1) rfl fo24_1 rfl) (fun _ hw => HeapIs.drop (HeapIs.toNE (i := 0) (T := tInt) (LL0 := bo.counts) rfl (by first | exact Shape.refl _ | exact Shape.set) hw) (lr)) ?_
        refine h_tk (i := 9) (ls := #[T1,T1,T1,T1,T1,T1,T1,F0,T1,T1,F0,F0,F0,F0,F0,F0,F0,F0,F0]) rfl (p_load (i := 14) (v := .slice ab_0 b.counts.length cb_0.n) rfl rfl sh22 rfl) (fun _ hw => HeapIs.drop (HeapIs.toNE (i := 0) (T := tInt) (LL0 := bo.counts) rfl (by first | exact Shape.refl _ | exact Shape.set) hw) (lr)) ?_
        refine h_tk (i := 10) (ls := #[T1,T1,T1,T1,T1,T1,T1,F0,T1,T1,T1,F0,F0,F0,F0,F0,F0,F0,F0]) rfl (p_move rfl) (fun _ hw => HeapIs.drop (HeapIs.toNE (i := 0) (T := tInt) (LL0 := bo.counts) rfl (by first | exact Shape.refl _ | exact Shape.set) hw) (lr)) ?_
        refine h_tk (i := 11) (ls := #[T1,T1,T1,T1,T1,T1,T1,F0,T1,T1,T1,T1,F0,F0,F0,F0,F0,F0,F0]) rfl (p_indexAddrN (T := tInt) (c := cb_0) (LL := b.counts) (i := (r : Int)) rfl rfl (rd_baseN (i := 16) rfl hb_0) Try.underlying22 sz37 (by first | omega | decide) (by first | omega | decide)) (fun _ hw => HeapIs.drop (HeapIs.toNE (i := 0) (T := tInt) (LL0 := bo.counts) rfl (by first | exact Shape.refl _ | exact Shape.set) hw) (lr)) ?_
        refine h_tk (i := 12) (ls := #[T1,T1,T1,T1,T1,T1,T1,F0,T1,T1,T1,T1,T1,F0,F0,F0,F0,F0,F0]) rfl (p_loadN (T := tInt) (c := cb_0) (LL := b.counts) (i := r) rfl (rd_baseN (i := 16) rfl hb_0) (by first | assumption | omega | decide) sh37) (fun _ hw => HeapIs.drop (HeapIs.toNE (i := 0) (T := tInt) (LL0 := bo.counts) rfl (by first | exact Shape.refl _ | exact Shape.set) hw) (lr)) ?_
        refine h_tk (i := 13) (ls := #[T1,T1,T1,T1,T1,T1,T1,F0,T1,T1,T1,T1,T1,T1,F0,F0,F0,F0,F0]) rfl (p_move rfl) (fun _ hw => HeapIs.drop (HeapIs.toNE (i := 0) (T := tInt) (LL0 := bo.counts) rfl (by first | exact Shape.refl _ | exact Shape.set) hw) (lr)) ?_
        refine h_tk (i := 14) (ls := #[T1,T1,T1,T1,T1,T1,T1,F0,T1,T1,T1,T1,T1,T1,T1,F0,F0,F0,F0]) rfl (p_indexAddr (L := (b.counts.getD r [])) (T := tInt) (i := (k : Int)) rfl rfl (rd_rowN (i := r) (rd_baseN (i := 16) rfl hb_0) (by first | assumption | omega)) Try.underlying37 sz3 (by omega) (by omega)) (fun _ hw => HeapIs.drop (HeapIs.toNE (i := 0) (T := tInt) (LL0 := bo.counts) rfl (by first | exact Shape.refl _ | exact Shape.set) hw) (lr)) ?_
        refine h_tk (i := 15) (ls := #[T1,T1,T1,T1,T1,T1,T1,F0,T1,T1,T1,T1,T1,T1,T1,T1,F0,F0,F0]) rfl (p_loadE1 (i := k) (T := tInt) (L := (b.counts.getD r [])) (v := Vi ((b.counts.getD r []).getD k default)) rfl (rd_rowN (i := r) (rd_baseN (i := 16) rfl hb_0) (by first | assumption | omega)) (by first | assumption | omega) sh3 (congrArg tInt.enc (getd_at (by first | assumption | omega) default))) (fun _ hw => HeapIs.drop (HeapIs.toNE (i := 0) (T := tInt) (LL0 := bo.counts) rfl (by first | exact Shape.refl _ | exact Shape.set) hw) (lr)) ?_
        refine h_one (i := 7) (ls := #[T1,T1,T1,T1,T1,T1,T1,T1,T1,T1,T1,T1,T1,T1,T1,T1,F0,F0,F0]) (by kernel_rfl) rfl rfl ?_
        refine o_p (p_loadE1 (i := k) (T := tInt) (L := (bo.counts.getD r [])) (v := Vi ((bo.counts.getD r []).getD k default)) rfl (rd_rowN (i := r) (rd_ownN (i := 0) rfl) (by first | assumption | omega)) (by first | assumption | omega) sh3 (congrArg tInt.enc (getd_at (by first | assumption | omega) default))) ?_
        refine o_nil ?_
        refine h_next (fun _ hw => HeapIs.drop (HeapIs.toNE (i := 0) (T := tInt) (LL0 := bo.counts) rfl (by first | exact Shape.refl _ | exact Shape.set) hw) (lr)) ?_
        refine h_tk (i := 16) (ls := #[T1,T1,T1,T1,T1,T1,T1,T1,T1,T1,T1,T1,T1,T1,T1,T1,T1,F0,F0]) rfl (p_addb rfl rfl (by omega)) (fun _ hw => HeapIs.drop (HeapIs.toNE (i := 0) (T := tInt) (LL0 := bo.counts) rfl (by first | exact Shape.refl _ | exact Shape.set) hw) (lr)) ?_
        refine h_tk (i := 17) (ls := #[T1,T1,T1,T1,T1,T1,T1,T1,T1,T1,T1,T1,T1,T1,T1,T1,T1,T1,F0]) rfl (p_indexAddrRowNE (T := tInt) (c := cbo_0) (LL := bo.counts) (k := r) (i := (k : Int)) (j := 0) rfl rfl rfl (by omega) Try.underlying37 sz3 (by omega) (by omega)) (fun _ hw => HeapIs.drop (HeapIs.toNE (i := 0) (T := tInt) (LL0 := bo.counts) rfl (by first | exact Shape.refl _ | exact Shape.set) hw) (lr)) ?_
        refine h_one (i := 18) (ls := #[T1,T1,T1,T1,T1,T1,T1,T1,T1,T1,T1,T1,T1,T1,T1,T1,T1,T1,T1]) (by kernel_rfl) rfl rfl ?_
        refine o_storeElW (k := r) (T := tInt) (idx := k) (v := Vi (((bo.counts.getD r []).getD k default) + ((b.counts.getD r []).getD k default))) (vs := [Vi (((bo.counts.getD r []).getD k default) + ((b.counts.getD r []).getD k default))]) (z := (((bo.counts.getD r []).getD k default) + ((b.counts.getD r []).getD k default))) rfl rfl rfl (by first | assumption | omega | (simp only [List.length_set]; omega)) (by first | assumption | omega | (simp only [List.length_set]; omega)) sz3 rfl rfl rfl rfl (Sub.refl _) ?_
        refine o_nil ?_
        refine h_next (fun _ hw => HeapIs.drop (HeapIs.toNE (i := 0) (T := tInt) (LL0 := bo.counts) rfl (by first | exact Shape.refl _ | exact Shape.set) hw) (lr)) ?_
        refine h_done (by kernel_rfl) ?_
        refine q_cast (F' := [(4, .pointer (some ⟨B1, 0, none⟩)), (5, .pointer (some ⟨B2, 0, none⟩)), (9, .pointer (some ⟨B8, 0, none⟩)), (10, Vi (Sk.addErr a key many)), (11, Vi (Sk.est a key)), (12, Vi (Sk.keyErr a key)), (13, .pointer (some ⟨B14, 0, none⟩)), (14, Vi (Sk.mrgErr a b)), (15, .pointer (some ⟨B20, 0, none⟩)), (16, Vi (Sk.halfErr a)), (17, Vi (Sk.total a)), (18, Vi (Sk.check a)), (19, Vi (Sk.check a)), (20, Vi (Sk.keyErr a key)), (21, Vi v), (22, Vi (Sk.check b)), (23, Vi o), (24, .pointer (some ⟨B21, 0, none⟩)), (25, .pointer (some ⟨B22, 0, none⟩)), (26, .pointer (some ⟨B23, 0, none⟩)), (27, Vi about), (28, Vi (Sk.sum (a.counts.getD 0 []))), (33, Vi (r : Int)), (34, Vi (k : Int))]) (H := [ownN tInt Sbo_0 abo_0 cbo_0 (bo.counts.set r ((bo.counts.getD r []).set k (((bo.counts.getD r []).getD k default) + ((b.counts.getD r []).getD k default)))), ownN tInt Shf_0 ahf_0 chf_0 hf.counts, ownN tInt (fun _ => False) none nc0 ([]), ownN tInt (fun _ => False) none nc0 ([]), ownN tInt Sad_0 aad_0 cad_0 ad.counts, box B23 [Vi hf.wide, .slice ahf_0 hf.counts.length chf_0.n] 24, box B22 [Vi bo.wide, .slice abo_0 bo.counts.length cbo_0.n] 24, box B21 [Vi ad.wide, .slice aad_0 ad.counts.length cad_0.n] 24, box B20 [Vi ((Sk.halve a).wide), .slice a17 ((Sk.halve a).counts).length c18.n] 24, ownN tInt S15 a17 c18 ((Sk.halve a).counts), box B14 [Vi ((Sk.merge a b).wide), .slice a11 ((Sk.merge a b).counts).length c12.n] 24, ownN tInt S9 a11 c12 ((Sk.merge a b).counts), box B8 [Vi ((Sk.add a key many).wide), .slice a5 ((Sk.add a key many).counts).length c6.n] 24, ownN tInt S3 a5 c6 ((Sk.add a key many).counts), box B2 [Vi b.wide, .slice ab_0 b.counts.length cb_0.n] 24, box B1 [Vi a.wide, .slice aa_0 a.counts.length ca_0.n] 24, base w0]) (H' := [ownN tInt Sbo_0 abo_0 cbo_0 (bo.counts.set r ((bo.counts.getD r []).set k (((bo.counts.getD r []).getD k default) + ((b.counts.getD r []).getD k default)))), ownN tInt Shf_0 ahf_0 chf_0 hf.counts, ownN tInt (fun _ => False) none nc0 ([]), ownN tInt (fun _ => False) none nc0 ([]), ownN tInt Sad_0 aad_0 cad_0 ad.counts, box B23 [Vi hf.wide, .slice ahf_0 hf.counts.length chf_0.n] 24, box B22 [Vi bo.wide, .slice abo_0 (bo.counts.set r ((bo.counts.getD r []).set k (((bo.counts.getD r []).getD k default) + ((b.counts.getD r []).getD k default)))).length cbo_0.n] 24, box B21 [Vi ad.wide, .slice aad_0 ad.counts.length cad_0.n] 24, box B20 [Vi ((Sk.halve a).wide), .slice a17 ((Sk.halve a).counts).length c18.n] 24, ownN tInt S15 a17 c18 ((Sk.halve a).counts), box B14 [Vi ((Sk.merge a b).wide), .slice a11 ((Sk.merge a b).counts).length c12.n] 24, ownN tInt S9 a11 c12 ((Sk.merge a b).counts), box B8 [Vi ((Sk.add a key many).wide), .slice a5 ((Sk.add a key many).counts).length c6.n] 24, ownN tInt S3 a5 c6 ((Sk.add a key many).counts), box B2 [Vi b.wide, .slice ab_0 b.counts.length cb_0.n] 24, box B1 [Vi a.wide, .slice aa_0 a.counts.length ca_0.n] 24, base w0]) (sr (sr (sr (sr (sr (sr (sr (sr (sr (sr (sr (sr (sr (sr (sr (sr (sr (sr (sr (sr (sr (sr (sr (sr (Sub.nil _))))))))))))))))))))))))) (by simp only [List.length_set, List.length_reverse]) ?_
        refine q_block_normal (q_then ?_)
        refine c_region ?_
        refine o_mv rfl rfl ?_
        refine o_p (p_addb rfl rfl (by omega)) ?_
        refine o_as rfl rfl ?_
        refine o_nil ?_
        refine q_round hK66 (k + 1, (⟨bo.wide, (bo.counts.set r ((bo.counts.getD r []).set k (((bo.counts.getD r []).getD k default) + ((b.counts.getD r []).getD k default))))⟩ : DSketch), abo_0, cbo_0, Sbo_0) ?_ ?_ ?_ ?_
        ·clear hK66
         exact ⟨by omega, hI.2.1, hI.2.2.next (by omega) (by omega) (Sk.mrg_z (by omega))⟩
        ·(try dsimp only); omega
        ·exact sr (sr (sr (sr (sr (sr (sr (sr (sr (sr (sr (sr (sr (sr (sr (sr (sr (sr (sr (sr (sr (sr (sr (sr (Sub.nil _))))))))))))))))))))))))
        ·exact pk [0, 1, 2, 3, 4, 5, 6, 7, 8, 9, 10, 11, 12, 13, 14, 15, 16]
       ·simp only [decide_eq_false_iff_not, Int.not_lt] at hc67
        refine c_exit ?_
        refine q_then_exit (q_then_exit (q_block_exit (q_block_normal (q_then ?_))))
        refine c_region ?_
        refine o_mv rfl rfl ?_
        refine o_p (p_addb rfl rfl (by omega)) ?_
        refine o_as rfl rfl ?_
        refine o_nil ?_
        refine q_round hK64 (r + 1, bo, abo_0, cbo_0, Sbo_0) ?_ ?_ ?_ ?_
        ·clear hK64
         exact ⟨hI.2.1, hI.2.2.row (by omega)⟩
        ·(try dsimp only); omega
        ·exact sr (sr (sr (sr (sr (sr (sr (sr (sr (sr (sr (sr (sr (sr (sr (sr (sr (sr (sr (sr (sr (sr (sr (Sub.nil _)))))))))))))))))))))))
        ·exact pk [0, 1, 2, 3, 4, 5, 6, 7, 8, 9, 10, 11, 12, 13, 14, 15, 16]
      ·simp only [decide_eq_false_iff_not, Int.not_lt] at hc65
       have hhl := hI.2.len
       have hbu := Sk.both_u hca hcb hkd hI.1 hI.2 (by omega)
       refine c_exit ?_
       refine q_then_exit (q_then_exit (q_block_exit (q_then ?_)))
       refine c_seq (c_region ?_)
       refine o_p (p_load_agg (i := 6) (vs := [Vi bo.wide, .slice abo_0 bo.counts.length cbo_0.n]) rfl rfl sh24 rfl rfl) ?_
       refine o_call0 (v := .bool (Sk.fits bo.counts)) rfl (sketchFits_ok bo abo_0 cbo_0) hf22 (fun w hw => (rd_ownN (i := 0) rfl) w hw) rfl ?_
       refine o_p (p_not (b := (Sk.fits bo.counts)) rfl) ?_
       refine o_nil (q_then ?_)
       refine c_cond rfl (fun hc69 => ?_) (fun hc69 => ?_)
       ·simp only [Bool.not_eq_true'] at hc69
        have hft := hc69
        refine c_region ?_
        refine o_as rfl rfl ?_
        refine o_nil ?_
        refine q_join hK41 (8, o, (Sk.sum (a.counts.getD 0 [])), hf, ahf_0, chf_0, Shf_0, bo, abo_0, cbo_0, Sbo_0) ?_ (sr (sr (sr (sr (sr (sr (sr (sr (sr (sr (sr (sr (sr (sr (sr (sr (sr (sr (sr (sr (sr (Sub.nil _)))))))))))))))))))))) (pk [0, 1, 4, 5, 6, 7, 8, 9, 10, 11, 12, 13, 14, 15, 16])
        clear hK41
        first | exact Sk.J2.none hnc | exact Sk.J2.mk2 htt hj3 ⟨(Sk.u_bad hca hncb).symm, fun h9 => absurd h9 hncb⟩ | exact Sk.J2.mk2 htt hj3 ⟨(Sk.u_kind hca hku.1 hku.2).symm, fun h9 => by cases h9⟩ | exact Sk.J2.mk2 htt hj3 ⟨(hbu.2 hft).symm, fun h9 => by cases h9⟩ | exact Sk.J2.mk2 htt hj3 ⟨hcb.trans (hbu.1 hft).1.symm, fun _ => (hbu.1 hft).2⟩
       ·simp only [Bool.not_eq_false'] at hc69
        have hft := hc69
        refine c_skip ?_
        refine q_join hK41 ((Sk.check b), o, (Sk.sum (a.counts.getD 0 [])), hf, ahf_0, chf_0, Shf_0, bo, abo_0, cbo_0, Sbo_0) ?_ (sr (sr (sr (sr (sr (sr (sr (sr (sr (sr (sr (sr (sr (sr (sr (sr (sr (sr (sr (sr (sr (Sub.nil _)))))))))))))))))))))) (pk [0, 1, 4, 5, 6, 7, 8, 9, 10, 11, 12, 13, 14, 15, 16])
        clear hK41
        first | exact Sk.J2.none hnc | exact Sk.J2.mk2 htt hj3 ⟨(Sk.u_bad hca hncb).symm, fun h9 => absurd h9 hncb⟩ | exact Sk.J2.mk2 htt hj3 ⟨(Sk.u_kind hca hku.1 hku.2).symm, fun h9 => by cases h9⟩ | exact Sk.J2.mk2 htt hj3 ⟨(hbu.2 hft).symm, fun h9 => by cases h9⟩ | exact Sk.J2.mk2 htt hj3 ⟨hcb.trans (hbu.1 hft).1.symm, fun _ => (hbu.1 hft).2⟩
     ·simp only [beq_eq_false_iff_ne, ne_eq] at hc58
      have hncb := hc58
      refine c_skip ?_
      refine q_join hK41 ((Sk.check b), o, (Sk.sum (a.counts.getD 0 [])), hf, ahf_0, chf_0, Shf_0, (⟨0, []⟩ : DSketch), none, nc0, (fun _ => False)) ?_ (sr (sr (sr (sr (sr (sr (sr (sr (sr (sr (sr (sr (sr (sr (sr (sr (sr (sr (sr (sr (sr (Sub.nil _)))))))))))))))))))))) (pk [1, 0, 3, 4, 5, 6, 7, 8, 9, 10, 11, 12, 13, 14, 15])
      clear hK41
      first | exact Sk.J2.none hnc | exact Sk.J2.mk2 htt hj3 ⟨(Sk.u_bad hca hncb).symm, fun h9 => absurd h9 hncb⟩ | exact Sk.J2.mk2 htt hj3 ⟨(Sk.u_kind hca hku.1 hku.2).symm, fun h9 => by cases h9⟩ | exact Sk.J2.mk2 htt hj3 ⟨(hbu.2 hft).symm, fun h9 => by cases h9⟩ | exact Sk.J2.mk2 htt hj3 ⟨hcb.trans (hbu.1 hft).1.symm, fun _ => (hbu.1 hft).2⟩
  ·simp only [beq_eq_false_iff_ne, ne_eq] at hc42
   have hnc := hc42
   refine c_skip ?_
   refine q_join hK41 ((Sk.check a), (Sk.check a), 0, (⟨0, []⟩ : DSketch), none, nc0, (fun _ => False), (⟨0, []⟩ : DSketch), none, nc0, (fun _ => False)) ?_ (sr (sr (sr (sr (sr (sr (sr (sr (sr (sr (sr (sr (sr (sr (sr (sr (sr (sr (sr (sr (sr (Sub.nil _)))))))))))))))))))))) (pk [0, 1, 2, 3, 4, 5, 6, 7, 8, 9, 10, 11, 12, 13, 14])
   clear hK41
   first | exact Sk.J2.none hnc | exact Sk.J2.mk2 htt hj3 ⟨(Sk.u_bad hca hncb).symm, fun h9 => absurd h9 hncb⟩ | exact Sk.J2.mk2 htt hj3 ⟨(Sk.u_kind hca hku.1 hku.2).symm, fun h9 => by cases h9⟩ | exact Sk.J2.mk2 htt hj3 ⟨(hbu.2 hft).symm, fun h9 => by cases h9⟩ | exact Sk.J2.mk2 htt hj3 ⟨hcb.trans (hbu.1 hft).1.symm, fun _ => (hbu.1 hft).2⟩
 rintro ⟨u, o, total, hf, ahf_0, chf_0, Shf_0, bo, abo_0, cbo_0, Sbo_0⟩ hj2
 show SQ _ 290 w0 _ _ [(4, .pointer (some ⟨B1, 0, none⟩)), (9, .pointer (some ⟨B8, 0, none⟩)), (10, Vi (Sk.addErr a key many)), (11, Vi (Sk.est a key)), (12, Vi (Sk.keyErr a key)), (13, .pointer (some ⟨B14, 0, none⟩)), (14, Vi (Sk.mrgErr a b)), (15, .pointer (some ⟨B20, 0, none⟩)), (16, Vi (Sk.halfErr a)), (17, Vi (Sk.total a)), (18, Vi (Sk.check a)), (19, Vi (Sk.check a)), (20, Vi (Sk.keyErr a key)), (21, Vi v), (22, Vi u), (23, Vi o), (24, .pointer (some ⟨B21, 0, none⟩)), (25, .pointer (some ⟨B22, 0, none⟩)), (26, .pointer (some ⟨B23, 0, none⟩)), (27, Vi about), (28, Vi total)] [ownN tInt Sbo_0 abo_0 cbo_0 bo.counts, ownN tInt Shf_0 ahf_0 chf_0 hf.counts, ownN tInt Sad_0 aad_0 cad_0 ad.counts, box B23 [Vi hf.wide, .slice ahf_0 hf.counts.length chf_0.n] 24, box B22 [Vi bo.wide, .slice abo_0 bo.counts.length cbo_0.n] 24, box B21 [Vi ad.wide, .slice aad_0 ad.counts.length cad_0.n] 24, box B20 [Vi ((Sk.halve a).wide), .slice a17 ((Sk.halve a).counts).length c18.n] 24, ownN tInt S15 a17 c18 ((Sk.halve a).counts), box B14 [Vi ((Sk.merge a b).wide), .slice a11 ((Sk.merge a b).counts).length c12.n] 24, ownN tInt S9 a11 c12 ((Sk.merge a b).counts), box B8 [Vi ((Sk.add a key many).wide), .slice a5 ((Sk.add a key many).counts).length c6.n] 24, ownN tInt S3 a5 c6 ((Sk.add a key many).counts), box B2 [Vi b.wide, .slice ab_0 b.counts.length cb_0.n] 24, box B1 [Vi a.wide, .slice aa_0 a.counts.length ca_0.n] 24, base w0]
 refine q_then (c_seq (c_seq (c_region ?_)))
 refine o_mv rfl rfl ?_
 refine o_p (p_ne rfl rfl) ?_
 refine o_nil (q_then ?_)
 refine c_join (G := DSketch × Option Addr × NC × (Nat → Prop))
  (fun ⟨ad2, aad2_0, cad2_0, Sad2_0⟩ => [(4, .pointer (some ⟨B1, 0, none⟩)), (9, .pointer (some ⟨B8, 0, none⟩)), (10, Vi (Sk.addErr a key many)), (11, Vi (Sk.est a key)), (12, Vi (Sk.keyErr a key)), (13, .pointer (some ⟨B14, 0, none⟩)), (14, Vi (Sk.mrgErr a b)), (15, .pointer (some ⟨B20, 0, none⟩)), (16, Vi (Sk.halfErr a)), (17, Vi (Sk.total a)), (18, Vi (Sk.check a)), (19, Vi (Sk.check a)), (20, Vi (Sk.keyErr a key)), (21, Vi v), (22, Vi u), (23, Vi o), (24, .pointer (some ⟨B21, 0, none⟩)), (25, .pointer (some ⟨B22, 0, none⟩)), (26, .pointer (some ⟨B23, 0, none⟩)), (27, Vi about), (28, Vi total)])
  (fun ⟨ad2, aad2_0, cad2_0, Sad2_0⟩ => [ownN tInt Sbo_0 abo_0 cbo_0 bo.counts, ownN tInt Shf_0 ahf_0 chf_0 hf.counts, ownN tInt Sad2_0 aad2_0 cad2_0 ad2.counts, box B23 [Vi hf.wide, .slice ahf_0 hf.counts.length chf_0.n] 24, box B22 [Vi bo.wide, .slice abo_0 bo.counts.length cbo_0.n] 24, box B21 [Vi ad2.wide, .slice aad2_0 ad2.counts.length cad2_0.n] 24, box B20 [Vi ((Sk.halve a).wide), .slice a17 ((Sk.halve a).counts).length c18.n] 24, ownN tInt S15 a17 c18 ((Sk.halve a).counts), box B14 [Vi ((Sk.merge a b).wide), .slice a11 ((Sk.merge a b).counts).length c12.n] 24, ownN tInt S9 a11 c12 ((Sk.merge a b).counts), box B8 [Vi ((Sk.add a key many).wide), .slice a5 ((Sk.add a key many).counts).length c6.n] 24, ownN tInt S3 a5 c6 ((Sk.add a key many).counts), box B2 [Vi b.wide, .slice ab_0 b.counts.length cb_0.n] 24, box B1 [Vi a.wide, .slice aa_0 a.counts.length ca_0.n] 24, base w0])
  (fun ⟨ad2, aad2_0, cad2_0, Sad2_0⟩ => ad2 = Sk.add a key many)
  (fun K hK70 => ?_) ?_
 ·refine c_cond rfl (fun hc71 => ?_) (fun hc71 => ?_)
  ·simp only [bne_iff_ne, ne_eq] at hc71
   have hvn := hc71
   refine c_region ?_
   refine o_p (p_build (cells := [Vi 0, .slice none 0 0]) fp24 ze24 rfl rfl) ?_
   refine o_storeN (i := 5) (vs := [Vi 0, .slice none 0 0]) (cs' := [Vi 0, .slice none 0 0]) rfl rfl rfl sz24 rfl rfl rfl rfl ?_
   refine o_nil ?_
   refine q_ownNilN tInt ?_
   refine q_join hK70 ((⟨0, []⟩ : DSketch), none, nc0, (fun _ => False)) ?_ (sr (sr (sr (sr (sr (sr (sr (sr (sr (sr (sr (sr (sr (sr (sr (sr (sr (sr (sr (sr (sr (Sub.nil _)))))))))))))))))))))) (pk [1, 2, 0, 4, 5, 6, 7, 8, 9, 10, 11, 12, 13, 14, 15])
   clear hK70
   first | exact hj1.zero hvn | exact hj1.had hvn
  ·simp only [bne_eq_false_iff_eq] at hc71
   have hvn := hc71
   refine c_skip ?_
   refine q_join hK70 (ad, aad_0, cad_0, Sad_0) ?_ (sr (sr (sr (sr (sr (sr (sr (sr (sr (sr (sr (sr (sr (sr (sr (sr (sr (sr (sr (sr (sr (Sub.nil _)))))))))))))))))))))) (pk [0, 1, 2, 3, 4, 5, 6, 7, 8, 9, 10, 11, 12, 13, 14])
   clear hK70
   first | exact hj1.zero hvn | exact hj1.had hvn
 rintro ⟨ad2, aad2_0, cad2_0, Sad2_0⟩ hq1
 show SQ _ 290 w0 _ _ [(4, .pointer (some ⟨B1, 0, none⟩)), (9, .pointer (some ⟨B8, 0, none⟩)), (10, Vi (Sk.addErr a key many)), (11, Vi (Sk.est a key)), (12, Vi (Sk.keyErr a key)), (13, .pointer (some ⟨B14, 0, none⟩)), (14, Vi (Sk.mrgErr a b)), (15, .pointer (some ⟨B20, 0, none⟩)), (16, Vi (Sk.halfErr a)), (17, Vi (Sk.total a)), (18, Vi (Sk.check a)), (19, Vi (Sk.check a)), (20, Vi (Sk.keyErr a key)), (21, Vi v), (22, Vi u), (23, Vi o), (24, .pointer (some ⟨B21, 0, none⟩)), (25, .pointer (some ⟨B22, 0, none⟩)), (26, .pointer (some ⟨B23, 0, none⟩)), (27, Vi about), (28, Vi total)] [ownN tInt Sbo_0 abo_0 cbo_0 bo.counts, ownN tInt Shf_0 ahf_0 chf_0 hf.counts, ownN tInt Sad2_0 aad2_0 cad2_0 ad2.counts, box B23 [Vi hf.wide, .slice ahf_0 hf.counts.length chf_0.n] 24, box B22 [Vi bo.wide, .slice abo_0 bo.counts.length cbo_0.n] 24, box B21 [Vi ad2.wide, .slice aad2_0 ad2.counts.length cad2_0.n] 24, box B20 [Vi ((Sk.halve a).wide), .slice a17 ((Sk.halve a).counts).length c18.n] 24, ownN tInt S15 a17 c18 ((Sk.halve a).counts), box B14 [Vi ((Sk.merge a b).wide), .slice a11 ((Sk.merge a b).counts).length c12.n] 24, ownN tInt S9 a11 c12 ((Sk.merge a b).counts), box B8 [Vi ((Sk.add a key many).wide), .slice a5 ((Sk.add a key many).counts).length c6.n] 24, ownN tInt S3 a5 c6 ((Sk.add a key many).counts), box B2 [Vi b.wide, .slice ab_0 b.counts.length cb_0.n] 24, box B1 [Vi a.wide, .slice aa_0 a.counts.length ca_0.n] 24, base w0]
 refine q_then (c_seq (c_seq (c_region ?_)))
 refine o_mv rfl rfl ?_
 refine o_p (p_ne rfl rfl) ?_
 refine o_nil (q_then ?_)
 refine c_join (G := DSketch × Option Addr × NC × (Nat → Prop))
  (fun ⟨bo2, abo2_0, cbo2_0, Sbo2_0⟩ => [(4, .pointer (some ⟨B1, 0, none⟩)), (9, .pointer (some ⟨B8, 0, none⟩)), (10, Vi (Sk.addErr a key many)), (11, Vi (Sk.est a key)), (12, Vi (Sk.keyErr a key)), (13, .pointer (some ⟨B14, 0, none⟩)), (14, Vi (Sk.mrgErr a b)), (15, .pointer (some ⟨B20, 0, none⟩)), (16, Vi (Sk.halfErr a)), (17, Vi (Sk.total a)), (18, Vi (Sk.check a)), (19, Vi (Sk.check a)), (20, Vi (Sk.keyErr a key)), (21, Vi v), (22, Vi u), (23, Vi o), (24, .pointer (some ⟨B21, 0, none⟩)), (25, .pointer (some ⟨B22, 0, none⟩)), (26, .pointer (some ⟨B23, 0, none⟩)), (27, Vi about), (28, Vi total)])
  (fun ⟨bo2, abo2_0, cbo2_0, Sbo2_0⟩ => [ownN tInt Sbo2_0 abo2_0 cbo2_0 bo2.counts, ownN tInt Shf_0 ahf_0 chf_0 hf.counts, ownN tInt Sad2_0 aad2_0 cad2_0 ad2.counts, box B23 [Vi hf.wide, .slice ahf_0 hf.counts.length chf_0.n] 24, box B22 [Vi bo2.wide, .slice abo2_0 bo2.counts.length cbo2_0.n] 24, box B21 [Vi ad2.wide, .slice aad2_0 ad2.counts.length cad2_0.n] 24, box B20 [Vi ((Sk.halve a).wide), .slice a17 ((Sk.halve a).counts).length c18.n] 24, ownN tInt S15 a17 c18 ((Sk.halve a).counts), box B14 [Vi ((Sk.merge a b).wide), .slice a11 ((Sk.merge a b).counts).length c12.n] 24, ownN tInt S9 a11 c12 ((Sk.merge a b).counts), box B8 [Vi ((Sk.add a key many).wide), .slice a5 ((Sk.add a key many).counts).length c6.n] 24, ownN tInt S3 a5 c6 ((Sk.add a key many).counts), box B2 [Vi b.wide, .slice ab_0 b.counts.length cb_0.n] 24, box B1 [Vi a.wide, .slice aa_0 a.counts.length ca_0.n] 24, base w0])
  (fun ⟨bo2, abo2_0, cbo2_0, Sbo2_0⟩ => bo2 = Sk.merge a b)
  (fun K hK73 => ?_) ?_
 ·refine c_cond rfl (fun hc74 => ?_) (fun hc74 => ?_)
  ·simp only [bne_iff_ne, ne_eq] at hc74
   have hvn := hc74
   refine c_region ?_
   refine o_p (p_build (cells := [Vi 0, .slice none 0 0]) fp24 ze24 rfl rfl) ?_
   refine o_storeN (i := 4) (vs := [Vi 0, .slice none 0 0]) (cs' := [Vi 0, .slice none 0 0]) rfl rfl rfl sz24 rfl rfl rfl rfl ?_
   refine o_nil ?_
   refine q_ownNilN tInt ?_
   refine q_join hK73 ((⟨0, []⟩ : DSketch), none, nc0, (fun _ => False)) ?_ (sr (sr (sr (sr (sr (sr (sr (sr (sr (sr (sr (sr (sr (sr (sr (sr (sr (sr (sr (sr (sr (Sub.nil _)))))))))))))))))))))) (pk [0, 2, 3, 4, 5, 6, 7, 8, 9, 10, 11, 12, 13, 14, 15])
   clear hK73
   first | exact hj2.zu hvn | exact hj2.bo hvn
  ·simp only [bne_eq_false_iff_eq] at hc74
   have hvn := hc74
   refine c_skip ?_
   refine q_join hK73 (bo, abo_0, cbo_0, Sbo_0) ?_ (sr (sr (sr (sr (sr (sr (sr (sr (sr (sr (sr (sr (sr (sr (sr (sr (sr (sr (sr (sr (sr (Sub.nil _)))))))))))))))))))))) (pk [0, 1, 2, 3, 4, 5, 6, 7, 8, 9, 10, 11, 12, 13, 14])
   clear hK73
   first | exact hj2.zu hvn | exact hj2.bo hvn
 rintro ⟨bo2, abo2_0, cbo2_0, Sbo2_0⟩ hq2
 show SQ _ 290 w0 _ _ [(4, .pointer (some ⟨B1, 0, none⟩)), (9, .pointer (some ⟨B8, 0, none⟩)), (10, Vi (Sk.addErr a key many)), (11, Vi (Sk.est a key)), (12, Vi (Sk.keyErr a key)), (13, .pointer (some ⟨B14, 0, none⟩)), (14, Vi (Sk.mrgErr a b)), (15, .pointer (some ⟨B20, 0, none⟩)), (16, Vi (Sk.halfErr a)), (17, Vi (Sk.total a)), (18, Vi (Sk.check a)), (19, Vi (Sk.check a)), (20, Vi (Sk.keyErr a key)), (21, Vi v), (22, Vi u), (23, Vi o), (24, .pointer (some ⟨B21, 0, none⟩)), (25, .pointer (some ⟨B22, 0, none⟩)), (26, .pointer (some ⟨B23, 0, none⟩)), (27, Vi about), (28, Vi total)] [ownN tInt Sbo2_0 abo2_0 cbo2_0 bo2.counts, ownN tInt Shf_0 ahf_0 chf_0 hf.counts, ownN tInt Sad2_0 aad2_0 cad2_0 ad2.counts, box B23 [Vi hf.wide, .slice ahf_0 hf.counts.length chf_0.n] 24, box B22 [Vi bo2.wide, .slice abo2_0 bo2.counts.length cbo2_0.n] 24, box B21 [Vi ad2.wide, .slice aad2_0 ad2.counts.length cad2_0.n] 24, box B20 [Vi ((Sk.halve a).wide), .slice a17 ((Sk.halve a).counts).length c18.n] 24, ownN tInt S15 a17 c18 ((Sk.halve a).counts), box B14 [Vi ((Sk.merge a b).wide), .slice a11 ((Sk.merge a b).counts).length c12.n] 24, ownN tInt S9 a11 c12 ((Sk.merge a b).counts), box B8 [Vi ((Sk.add a key many).wide), .slice a5 ((Sk.add a key many).counts).length c6.n] 24, ownN tInt S3 a5 c6 ((Sk.add a key many).counts), box B2 [Vi b.wide, .slice ab_0 b.counts.length cb_0.n] 24, box B1 [Vi a.wide, .slice aa_0 a.counts.length ca_0.n] 24, base w0]
 refine q_then (c_seq (c_seq (c_region ?_)))
 refine o_mv rfl rfl ?_
 refine o_p (p_ne rfl rfl) ?_
 refine o_nil (q_then ?_)
 refine c_join (G := DSketch × Option Addr × NC × (Nat → Prop))
  (fun ⟨hf2, ahf2_0, chf2_0, Shf2_0⟩ => [(4, .pointer (some ⟨B1, 0, none⟩)), (9, .pointer (some ⟨B8, 0, none⟩)), (10, Vi (Sk.addErr a key many)), (11, Vi (Sk.est a key)), (12, Vi (Sk.keyErr a key)), (13, .pointer (some ⟨B14, 0, none⟩)), (14, Vi (Sk.mrgErr a b)), (15, .pointer (some ⟨B20, 0, none⟩)), (16, Vi (Sk.halfErr a)), (17, Vi (Sk.total a)), (18, Vi (Sk.check a)), (19, Vi (Sk.check a)), (20, Vi (Sk.keyErr a key)), (21, Vi v), (22, Vi u), (23, Vi o), (24, .pointer (some ⟨B21, 0, none⟩)), (25, .pointer (some ⟨B22, 0, none⟩)), (26, .pointer (some ⟨B23, 0, none⟩)), (27, Vi about), (28, Vi total)])
  (fun ⟨hf2, ahf2_0, chf2_0, Shf2_0⟩ => [ownN tInt Sbo2_0 abo2_0 cbo2_0 bo2.counts, ownN tInt Shf2_0 ahf2_0 chf2_0 hf2.counts, ownN tInt Sad2_0 aad2_0 cad2_0 ad2.counts, box B23 [Vi hf2.wide, .slice ahf2_0 hf2.counts.length chf2_0.n] 24, box B22 [Vi bo2.wide, .slice abo2_0 bo2.counts.length cbo2_0.n] 24, box B21 [Vi ad2.wide, .slice aad2_0 ad2.counts.length cad2_0.n] 24, box B20 [Vi ((Sk.halve a).wide), .slice a17 ((Sk.halve a).counts).length c18.n] 24, ownN tInt S15 a17 c18 ((Sk.halve a).counts), box B14 [Vi ((Sk.merge a b).wide), .slice a11 ((Sk.merge a b).counts).length c12.n] 24, ownN tInt S9 a11 c12 ((Sk.merge a b).counts), box B8 [Vi ((Sk.add a key many).wide), .slice a5 ((Sk.add a key many).counts).length c6.n] 24, ownN tInt S3 a5 c6 ((Sk.add a key many).counts), box B2 [Vi b.wide, .slice ab_0 b.counts.length cb_0.n] 24, box B1 [Vi a.wide, .slice aa_0 a.counts.length ca_0.n] 24, base w0])
  (fun ⟨hf2, ahf2_0, chf2_0, Shf2_0⟩ => hf2 = Sk.halve a)
  (fun K hK76 => ?_) ?_
 ·refine c_cond rfl (fun hc77 => ?_) (fun hc77 => ?_)
  ·simp only [bne_iff_ne, ne_eq] at hc77
   have hvn := hc77
   refine c_region ?_
   refine o_p (p_build (cells := [Vi 0, .slice none 0 0]) fp24 ze24 rfl rfl) ?_
   refine o_storeN (i := 3) (vs := [Vi 0, .slice none 0 0]) (cs' := [Vi 0, .slice none 0 0]) rfl rfl rfl sz24 rfl rfl rfl rfl ?_
   refine o_nil ?_
   refine q_ownNilN tInt ?_
   refine q_join hK76 ((⟨0, []⟩ : DSketch), none, nc0, (fun _ => False)) ?_ (sr (sr (sr (sr (sr (sr (sr (sr (sr (sr (sr (sr (sr (sr (sr (sr (sr (sr (sr (sr (sr (Sub.nil _)))))))))))))))))))))) (pk [1, 0, 3, 4, 5, 6, 7, 8, 9, 10, 11, 12, 13, 14, 15])
   clear hK76
   first | exact hj2.zo hvn | exact hj2.ha hvn
  ·simp only [bne_eq_false_iff_eq] at hc77
   have hvn := hc77
   refine c_skip ?_
   refine q_join hK76 (hf, ahf_0, chf_0, Shf_0) ?_ (sr (sr (sr (sr (sr (sr (sr (sr (sr (sr (sr (sr (sr (sr (sr (sr (sr (sr (sr (sr (sr (Sub.nil _)))))))))))))))))))))) (pk [0, 1, 2, 3, 4, 5, 6, 7, 8, 9, 10, 11, 12, 13, 14])
   clear hK76
   first | exact hj2.zo hvn | exact hj2.ha hvn
 rintro ⟨hf2, ahf2_0, chf2_0, Shf2_0⟩ hq3
 show SQ _ 290 w0 _ _ [(4, .pointer (some ⟨B1, 0, none⟩)), (9, .pointer (some ⟨B8, 0, none⟩)), (10, Vi (Sk.addErr a key many)), (11, Vi (Sk.est a key)), (12, Vi (Sk.keyErr a key)), (13, .pointer (some ⟨B14, 0, none⟩)), (14, Vi (Sk.mrgErr a b)), (15, .pointer (some ⟨B20, 0, none⟩)), (16, Vi (Sk.halfErr a)), (17, Vi (Sk.total a)), (18, Vi (Sk.check a)), (19, Vi (Sk.check a)), (20, Vi (Sk.keyErr a key)), (21, Vi v), (22, Vi u), (23, Vi o), (24, .pointer (some ⟨B21, 0, none⟩)), (25, .pointer (some ⟨B22, 0, none⟩)), (26, .pointer (some ⟨B23, 0, none⟩)), (27, Vi about), (28, Vi total)] [ownN tInt Sbo2_0 abo2_0 cbo2_0 bo2.counts, ownN tInt Shf2_0 ahf2_0 chf2_0 hf2.counts, ownN tInt Sad2_0 aad2_0 cad2_0 ad2.counts, box B23 [Vi hf2.wide, .slice ahf2_0 hf2.counts.length chf2_0.n] 24, box B22 [Vi bo2.wide, .slice abo2_0 bo2.counts.length cbo2_0.n] 24, box B21 [Vi ad2.wide, .slice aad2_0 ad2.counts.length cad2_0.n] 24, box B20 [Vi ((Sk.halve a).wide), .slice a17 ((Sk.halve a).counts).length c18.n] 24, ownN tInt S15 a17 c18 ((Sk.halve a).counts), box B14 [Vi ((Sk.merge a b).wide), .slice a11 ((Sk.merge a b).counts).length c12.n] 24, ownN tInt S9 a11 c12 ((Sk.merge a b).counts), box B8 [Vi ((Sk.add a key many).wide), .slice a5 ((Sk.add a key many).counts).length c6.n] 24, ownN tInt S3 a5 c6 ((Sk.add a key many).counts), box B2 [Vi b.wide, .slice ab_0 b.counts.length cb_0.n] 24, box B1 [Vi a.wide, .slice aa_0 a.counts.length ca_0.n] 24, base w0]
 refine q_then (c_seq (c_region ?_))
 refine o_call0 (v := .bool true) rfl (sketchBegun_ok ) hf25 (fun _ _ => trivial) rfl ?_
 refine o_mv rfl rfl ?_
 refine o_unguard 234 rfl rfl ?_
 refine o_p (p_load_agg (i := 13) (vs := [Vi a.wide, .slice aa_0 a.counts.length ca_0.n]) rfl rfl sh24 rfl rfl) ?_
 refine o_unguard 234 rfl rfl ?_
 refine o_call0 (v := Vi (Sk.check a)) rfl (scheck_ok a aa_0 ca_0) hf26 (fun w hw => (rd_baseN (i := 14) rfl ha_0) w hw) rfl ?_
 refine o_unguard 234 rfl rfl ?_
 refine o_mv rfl rfl ?_
 refine o_unguard 234 rfl rfl ?_
 refine o_p (p_eq rfl rfl) ?_
 refine o_pt rfl rfl rfl ?_
 refine o_mv rfl rfl ?_
 refine o_and (p := 244) 4 (decide ((Sk.add a key many) = ad2)) ?_ ?_ ?_
 ·intro hb79 hk
  simp only [beq_iff_eq] at hb79
  refine o_unguard 240 rfl rfl ?_
  refine o_p (p_load_agg (i := 10) (vs := [Vi ((Sk.add a key many).wide), .slice a5 ((Sk.add a key many).counts).length c6.n]) rfl rfl sh24 rfl rfl) ?_
  refine o_unguard 240 rfl rfl ?_
  refine o_p (p_load_agg (i := 5) (vs := [Vi ad2.wide, .slice aad2_0 ad2.counts.length cad2_0.n]) rfl rfl sh24 rfl rfl) ?_
  refine o_unguard 240 rfl rfl ?_
  refine o_call0 (v := .bool (decide ((Sk.add a key many) = ad2))) rfl (sameSketch_ok (Sk.add a key many) a5 c6 ad2 aad2_0 cad2_0) hf27 (fun w hw => ⟨(rd_ownN (i := 11) rfl) w hw, (rd_ownN (i := 2) rfl) w hw⟩) rfl ?_
  refine o_pt rfl rfl rfl ?_
  exact o_sub (sr (Sub.skip rfl (Sub.skip rfl (Sub.skip rfl (Sub.skip rfl (Sub.skip rfl (Sub.refl _))))))) hk
 ·intro hb79 hk
  refine o_guard_no rfl 240 rfl rfl rfl rfl rfl ?_
  refine o_guard_no rfl 240 rfl rfl rfl rfl rfl ?_
  refine o_guard_no rfl 240 rfl rfl rfl rfl rfl ?_
  refine o_pf rfl rfl rfl ?_
  exact o_sub (sr (Sub.skip rfl (Sub.skip rfl (Sub.skip rfl (Sub.skip rfl (Sub.skip rfl (Sub.refl _))))))) hk
 refine o_mv rfl rfl ?_
 refine o_and (p := 249) 4 ((Sk.addErr a key many) == v) ?_ ?_ ?_
 ·intro hb80 hk
  simp only [Bool.and_eq_true, beq_iff_eq, decide_eq_true_eq] at hb80
  refine o_unguard 245 rfl rfl ?_
  refine o_mv rfl rfl ?_
  refine o_unguard 245 rfl rfl ?_
  refine o_mv rfl rfl ?_
  refine o_unguard 245 rfl rfl ?_
  refine o_p (p_eq rfl rfl) ?_
  refine o_pt rfl rfl rfl ?_
  exact o_sub (sr (Sub.skip rfl (Sub.skip rfl (Sub.skip rfl (Sub.skip rfl (Sub.skip rfl (Sub.refl _))))))) hk
 ·intro hb80 hk
  refine o_guard_no rfl 245 rfl rfl rfl rfl rfl ?_
  refine o_guard_no rfl 245 rfl rfl rfl rfl rfl ?_
  refine o_guard_no rfl 245 rfl rfl rfl rfl rfl ?_
  refine o_pf rfl rfl rfl ?_
  exact o_sub (sr (Sub.skip rfl (Sub.skip rfl (Sub.skip rfl (Sub.skip rfl (Sub.skip rfl (Sub.refl _))))))) hk
 refine o_mv rfl rfl ?_
 refine o_and (p := 254) 4 ((Sk.est a key) == about) ?_ ?_ ?_
 ·intro hb81 hk
  simp only [Bool.and_eq_true, beq_iff_eq, decide_eq_true_eq] at hb81
  refine o_unguard 250 rfl rfl ?_
  refine o_mv rfl rfl ?_
  refine o_unguard 250 rfl rfl ?_
  refine o_mv rfl rfl ?_
  refine o_unguard 250 rfl rfl ?_
  refine o_p (p_eq rfl rfl) ?_
  refine o_pt rfl rfl rfl ?_
  exact o_sub (sr (Sub.skip rfl (Sub.skip rfl (Sub.skip rfl (Sub.skip rfl (Sub.skip rfl (Sub.refl _))))))) hk
 ·intro hb81 hk
  refine o_guard_no rfl 250 rfl rfl rfl rfl rfl ?_
  refine o_guard_no rfl 250 rfl rfl rfl rfl rfl ?_
  refine o_guard_no rfl 250 rfl rfl rfl rfl rfl ?_
  refine o_pf rfl rfl rfl ?_
  exact o_sub (sr (Sub.skip rfl (Sub.skip rfl (Sub.skip rfl (Sub.skip rfl (Sub.skip rfl (Sub.refl _))))))) hk
 refine o_mv rfl rfl ?_
 refine o_and (p := 259) 4 ((Sk.keyErr a key) == (Sk.keyErr a key)) ?_ ?_ ?_
 ·intro hb82 hk
  simp only [Bool.and_eq_true, beq_iff_eq, decide_eq_true_eq] at hb82
  refine o_unguard 255 rfl rfl ?_
  refine o_mv rfl rfl ?_
  refine o_unguard 255 rfl rfl ?_
  refine o_mv rfl rfl ?_
  refine o_unguard 255 rfl rfl ?_
  refine o_p (p_eq rfl rfl) ?_
  refine o_pt rfl rfl rfl ?_
  exact o_sub (sr (Sub.skip rfl (Sub.skip rfl (Sub.skip rfl (Sub.skip rfl (Sub.skip rfl (Sub.refl _))))))) hk
 ·intro hb82 hk
  refine o_guard_no rfl 255 rfl rfl rfl rfl rfl ?_
  refine o_guard_no rfl 255 rfl rfl rfl rfl rfl ?_
  refine o_guard_no rfl 255 rfl rfl rfl rfl rfl ?_
  refine o_pf rfl rfl rfl ?_
  exact o_sub (sr (Sub.skip rfl (Sub.skip rfl (Sub.skip rfl (Sub.skip rfl (Sub.skip rfl (Sub.refl _))))))) hk
 refine o_mv rfl rfl ?_
 refine o_and (p := 264) 4 (decide ((Sk.merge a b) = bo2)) ?_ ?_ ?_
 ·intro hb83 hk
  simp only [Bool.and_eq_true, beq_iff_eq, decide_eq_true_eq] at hb83
  refine o_unguard 260 rfl rfl ?_
  refine o_p (p_load_agg (i := 8) (vs := [Vi ((Sk.merge a b).wide), .slice a11 ((Sk.merge a b).counts).length c12.n]) rfl rfl sh24 rfl rfl) ?_
  refine o_unguard 260 rfl rfl ?_
  refine o_p (p_load_agg (i := 4) (vs := [Vi bo2.wide, .slice abo2_0 bo2.counts.length cbo2_0.n]) rfl rfl sh24 rfl rfl) ?_
  refine o_unguard 260 rfl rfl ?_
  refine o_call0 (v := .bool (decide ((Sk.merge a b) = bo2))) rfl (sameSketch_ok (Sk.merge a b) a11 c12 bo2 abo2_0 cbo2_0) hf27 (fun w hw => ⟨(rd_ownN (i := 9) rfl) w hw, (rd_ownN (i := 0) rfl) w hw⟩) rfl ?_
  refine o_pt rfl rfl rfl ?_
  exact o_sub (sr (Sub.skip rfl (Sub.skip rfl (Sub.skip rfl (Sub.skip rfl (Sub.skip rfl (Sub.refl _))))))) hk
 ·intro hb83 hk
  refine o_guard_no rfl 260 rfl rfl rfl rfl rfl ?_
  refine o_guard_no rfl 260 rfl rfl rfl rfl rfl ?_
  refine o_guard_no rfl 260 rfl rfl rfl rfl rfl ?_
  refine o_pf rfl rfl rfl ?_
  exact o_sub (sr (Sub.skip rfl (Sub.skip rfl (Sub.skip rfl (Sub.skip rfl (Sub.skip rfl (Sub.refl _))))))) hk
 refine o_mv rfl rfl ?_
 refine o_and (p := 269) 4 ((Sk.mrgErr a b) == u) ?_ ?_ ?_
 ·intro hb84 hk
  simp only [Bool.and_eq_true, beq_iff_eq, decide_eq_true_eq] at hb84
  refine o_unguard 265 rfl rfl ?_
  refine o_mv rfl rfl ?_
  refine o_unguard 265 rfl rfl ?_
  refine o_mv rfl rfl ?_
  refine o_unguard 265 rfl rfl ?_
  refine o_p (p_eq rfl rfl) ?_
  refine o_pt rfl rfl rfl ?_
  exact o_sub (sr (Sub.skip rfl (Sub.skip rfl (Sub.skip rfl (Sub.skip rfl (Sub.skip rfl (Sub.refl _))))))) hk
 ·intro hb84 hk
  refine o_guard_no rfl 265 rfl rfl rfl rfl rfl ?_
  refine o_guard_no rfl 265 rfl rfl rfl rfl rfl ?_
  refine o_guard_no rfl 265 rfl rfl rfl rfl rfl ?_
  refine o_pf rfl rfl rfl ?_
  exact o_sub (sr (Sub.skip rfl (Sub.skip rfl (Sub.skip rfl (Sub.skip rfl (Sub.skip rfl (Sub.refl _))))))) hk
 refine o_mv rfl rfl ?_
 refine o_and (p := 274) 4 (decide ((Sk.halve a) = hf2)) ?_ ?_ ?_
 ·intro hb85 hk
  simp only [Bool.and_eq_true, beq_iff_eq, decide_eq_true_eq] at hb85
  refine o_unguard 270 rfl rfl ?_
  refine o_p (p_load_agg (i := 6) (vs := [Vi ((Sk.halve a).wide), .slice a17 ((Sk.halve a).counts).length c18.n]) rfl rfl sh24 rfl rfl) ?_
  refine o_unguard 270 rfl rfl ?_
  refine o_p (p_load_agg (i := 3) (vs := [Vi hf2.wide, .slice ahf2_0 hf2.counts.length chf2_0.n]) rfl rfl sh24 rfl rfl) ?_
  refine o_unguard 270 rfl rfl ?_
  refine o_call0 (v := .bool (decide ((Sk.halve a) = hf2))) rfl (sameSketch_ok (Sk.halve a) a17 c18 hf2 ahf2_0 chf2_0) hf27 (fun w hw => ⟨(rd_ownN (i := 7) rfl) w hw, (rd_ownN (i := 1) rfl) w hw⟩) rfl ?_
  refine o_pt rfl rfl rfl ?_
  exact o_sub (sr (Sub.skip rfl (Sub.skip rfl (Sub.skip rfl (Sub.skip rfl (Sub.skip rfl (Sub.refl _))))))) hk
 ·intro hb85 hk
  refine o_guard_no rfl 270 rfl rfl rfl rfl rfl ?_
  refine o_guard_no rfl 270 rfl rfl rfl rfl rfl ?_
  refine o_guard_no rfl 270 rfl rfl rfl rfl rfl ?_
  refine o_pf rfl rfl rfl ?_
  exact o_sub (sr (Sub.skip rfl (Sub.skip rfl (Sub.skip rfl (Sub.skip rfl (Sub.skip rfl (Sub.refl _))))))) hk
 refine o_mv rfl rfl ?_
 refine o_and (p := 279) 4 ((Sk.halfErr a) == o) ?_ ?_ ?_
 ·intro hb86 hk
  simp only [Bool.and_eq_true, beq_iff_eq, decide_eq_true_eq] at hb86
  refine o_unguard 275 rfl rfl ?_
  refine o_mv rfl rfl ?_
  refine o_unguard 275 rfl rfl ?_
  refine o_mv rfl rfl ?_
  refine o_unguard 275 rfl rfl ?_
  refine o_p (p_eq rfl rfl) ?_
  refine o_pt rfl rfl rfl ?_
  exact o_sub (sr (Sub.skip rfl (Sub.skip rfl (Sub.skip rfl (Sub.skip rfl (Sub.skip rfl (Sub.refl _))))))) hk
 ·intro hb86 hk
  refine o_guard_no rfl 275 rfl rfl rfl rfl rfl ?_
  refine o_guard_no rfl 275 rfl rfl rfl rfl rfl ?_
  refine o_guard_no rfl 275 rfl rfl rfl rfl rfl ?_
  refine o_pf rfl rfl rfl ?_
  exact o_sub (sr (Sub.skip rfl (Sub.skip rfl (Sub.skip rfl (Sub.skip rfl (Sub.skip rfl (Sub.refl _))))))) hk
 refine o_mv rfl rfl ?_
 refine o_and (p := 284) 4 ((Sk.total a) == total) ?_ ?_ ?_
 ·intro hb87 hk
  simp only [Bool.and_eq_true, beq_iff_eq, decide_eq_true_eq] at hb87
  refine o_unguard 280 rfl rfl ?_
  refine o_mv rfl rfl ?_
  refine o_unguard 280 rfl rfl ?_
  refine o_mv rfl rfl ?_
  refine o_unguard 280 rfl rfl ?_
  refine o_p (p_eq rfl rfl) ?_
  refine o_pt rfl rfl rfl ?_
  exact o_sub (sr (Sub.skip rfl (Sub.skip rfl (Sub.skip rfl (Sub.skip rfl (Sub.skip rfl (Sub.refl _))))))) hk
 ·intro hb87 hk
  refine o_guard_no rfl 280 rfl rfl rfl rfl rfl ?_
  refine o_guard_no rfl 280 rfl rfl rfl rfl rfl ?_
  refine o_guard_no rfl 280 rfl rfl rfl rfl rfl ?_
  refine o_pf rfl rfl rfl ?_
  exact o_sub (sr (Sub.skip rfl (Sub.skip rfl (Sub.skip rfl (Sub.skip rfl (Sub.skip rfl (Sub.refl _))))))) hk
 refine o_mv rfl rfl ?_
 refine o_and (p := 289) 4 ((Sk.check a) == (Sk.check a)) ?_ ?_ ?_
 ·intro hb88 hk
  simp only [Bool.and_eq_true, beq_iff_eq, decide_eq_true_eq] at hb88
  refine o_unguard 285 rfl rfl ?_
  refine o_mv rfl rfl ?_
  refine o_unguard 285 rfl rfl ?_
  refine o_mv rfl rfl ?_
  refine o_unguard 285 rfl rfl ?_
  refine o_p (p_eq rfl rfl) ?_
  refine o_pt rfl rfl rfl ?_
  exact o_sub (sr (Sub.skip rfl (Sub.skip rfl (Sub.skip rfl (Sub.skip rfl (Sub.skip rfl (Sub.refl _))))))) hk
 ·intro hb88 hk
  refine o_guard_no rfl 285 rfl rfl rfl rfl rfl ?_
  refine o_guard_no rfl 285 rfl rfl rfl rfl rfl ?_
  refine o_guard_no rfl 285 rfl rfl rfl rfl rfl ?_
  refine o_pf rfl rfl rfl ?_
  exact o_sub (sr (Sub.skip rfl (Sub.skip rfl (Sub.skip rfl (Sub.skip rfl (Sub.skip rfl (Sub.refl _))))))) hk
 refine o_as rfl rfl ?_
 refine o_nil (q_then (c_ret ?_))
 have hr0 : (((((((((((((Sk.check a) == (Sk.check a)) && (decide ((Sk.add a key many) = ad2))) && ((Sk.addErr a key many) == v)) && ((Sk.est a key) == about)) && ((Sk.keyErr a key) == (Sk.keyErr a key))) && (decide ((Sk.merge a b) = bo2))) && ((Sk.mrgErr a b) == u)) && (decide ((Sk.halve a) = hf2))) && ((Sk.halfErr a) == o)) && ((Sk.total a) == total)) && ((Sk.check a) == (Sk.check a))) : Bool) = true := by
  (simp only [hq1, hq2, hq3, hj1.hv, hj1.ab, hj2.hu, hj2.ho, hj2.ht]; simp; done)
 refine q_end0 (v := .bool ((((((((((((Sk.check a) == (Sk.check a)) && (decide ((Sk.add a key many) = ad2))) && ((Sk.addErr a key many) == v)) && ((Sk.est a key) == about)) && ((Sk.keyErr a key) == (Sk.keyErr a key))) && (decide ((Sk.merge a b) = bo2))) && ((Sk.mrgErr a b) == u)) && (decide ((Sk.halve a) = hf2))) && ((Sk.halfErr a) == o)) && ((Sk.total a) == total)) && ((Sk.check a) == (Sk.check a)))) (rt1 rfl (r_tmp rfl)) (i := 14) rfl ?_
 exact (by have hcc := congrArg (fun (y0 : Bool) => (.bool y0 : Value)) hr0; exact hcc)
end Go.Proofs.Ytnmbkopnopaigaa
