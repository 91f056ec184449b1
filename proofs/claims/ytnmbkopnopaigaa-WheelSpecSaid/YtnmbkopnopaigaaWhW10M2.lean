/- The walks, printed by a program from the translation and a specification. -/
import Derived.Test.YtnmbkopnopaigaaWhF
import Derived.Test.YtnmbkopnopaigaaWhPureM3
import Derived.Test.YtnmbkopnopaigaaSx24M4
import Derived.Test.YtnmbkopnopaigaaWhKM7
import Derived.Test.YtnmbkopnopaigaaProg
import Derived.Test.YtnmbkopnopaigaaSx31M2
namespace Go.Proofs.Ytnmbkopnopaigaa
open Go.Sx Go.RowKit
set_option maxHeartbeats 8000000 in
set_option maxRecDepth 100000 in
theorem wheelSpec_ok (wh : DWheel) (awh_0 : Option Addr) (cwh_0 : NC) (t : DTimer) (id : Int) (to : Int) : Fn0 Try.prog 7 [.agg #[Vi wh.now, .slice awh_0 wh.slots.length cwh_0.n], .agg #[Vi t.id, Vi t.due], Vi id, Vi to] (fun w => RdN tTimer w awh_0 cwh_0 wh.slots) (.bool true) := by
 refine fn0 (nt := 239) (F0 := [(0, .agg #[Vi wh.now, .slice awh_0 wh.slots.length cwh_0.n]), (1, .agg #[Vi t.id, Vi t.due]), (2, Vi id), (3, Vi to)]) Try.func7 rfl Try.ntmps7 rfl rfl (fun w0 hpre => ?_)
 have hwh_0 := hpre
 have hlhwh_0 := hwh_0.2.1
 refine c_seq (c_region ?_)
 refine o_box (v := .agg #[Vi wh.now, .slice awh_0 wh.slots.length cwh_0.n]) rfl rfl (fun B1 => ?_)
 refine o_box (v := .agg #[Vi t.id, Vi t.due]) rfl rfl (fun B2 => ?_)
 refine o_as rfl rfl ?_
 refine o_nil (q_then (c_seq (c_region ?_)))
 refine o_mv rfl rfl ?_
 refine o_callM rfl (wnew_ok to) hf29 (fun _ _ => trivial) rfl (fun _ _ _ _ ha hA => SlON.agree ha hA) ?_
 rintro ⟨a5, c6⟩ S3
 refine o_know (fun w hw => own_lenN (i := 0) (T := tTimer) hw rfl) (fun hlr7 => ?_)
 refine o_mv rfl rfl ?_
 refine o_ex rfl rfl rfl ?_
 refine o_ex rfl rfl rfl ?_
 refine o_alloc ze50 rfl (fun B8 => ?_)
 refine o_storeN (i := 0) (vs := [Vi ((Wh.new to).now), .slice a5 ((Wh.new to).slots).length c6.n]) (cs' := [Vi ((Wh.new to).now), .slice a5 ((Wh.new to).slots).length c6.n]) rfl rfl rfl sz50 rfl rfl rfl rfl ?_
 refine o_as rfl rfl ?_
 refine o_nil (q_then (c_seq (c_region ?_)))
 refine o_p (p_load_agg (i := 3) (vs := [Vi wh.now, .slice awh_0 wh.slots.length cwh_0.n]) rfl rfl sh50 rfl rfl) ?_
 refine o_p (p_load_agg (i := 2) (vs := [Vi t.id, Vi t.due]) rfl rfl sh52 rfl rfl) ?_
 refine o_callM rfl (wadd_ok wh awh_0 cwh_0 t) hf30 (fun w hw => (rd_baseN (i := 4) rfl hwh_0) w hw) rfl (fun _ _ _ _ ha hA => SlON.agree ha hA) ?_
 rintro ⟨a11, c12⟩ S9
 refine o_know (fun w hw => own_lenN (i := 0) (T := tTimer) hw rfl) (fun hlr13 => ?_)
 refine o_mv rfl rfl ?_
 refine o_ex rfl rfl rfl ?_
 refine o_ex rfl rfl rfl ?_
 refine o_alloc ze50 rfl (fun B14 => ?_)
 refine o_storeN (i := 0) (vs := [Vi ((Wh.add wh t).now), .slice a11 ((Wh.add wh t).slots).length c12.n]) (cs' := [Vi ((Wh.add wh t).now), .slice a11 ((Wh.add wh t).slots).length c12.n]) rfl rfl rfl sz50 rfl rfl rfl rfl ?_
 refine o_as rfl rfl ?_
 refine o_nil (q_then (c_seq (c_region ?_)))
 refine o_p (p_load_agg (i := 5) (vs := [Vi wh.now, .slice awh_0 wh.slots.length cwh_0.n]) rfl rfl sh50 rfl rfl) ?_
 refine o_mv rfl rfl ?_
 refine o_callM rfl (wcancel_ok wh awh_0 cwh_0 id) hf31 (fun w hw => (rd_baseN (i := 6) rfl hwh_0) w hw) rfl (fun _ _ _ _ ha hA => SlON.agree ha hA) ?_
 rintro ⟨a17, c18⟩ S15
 refine o_know (fun w hw => own_lenN (i := 0) (T := tTimer) hw rfl) (fun hlr19 => ?_)
 refine o_mv rfl rfl ?_
 refine o_ex rfl rfl rfl ?_
 refine o_ex rfl rfl rfl ?_
 refine o_alloc ze50 rfl (fun B20 => ?_)
 refine o_storeN (i := 0) (vs := [Vi ((Wh.cancel wh id).now), .slice a17 ((Wh.cancel wh id).slots).length c18.n]) (cs' := [Vi ((Wh.cancel wh id).now), .slice a17 ((Wh.cancel wh id).slots).length c18.n]) rfl rfl rfl sz50 rfl rfl rfl rfl ?_
 refine o_as rfl rfl ?_
 refine o_nil (q_then (c_seq (c_region ?_)))
 refine o_p (p_load_agg (i := 7) (vs := [Vi wh.now, .slice awh_0 wh.slots.length cwh_0.n]) rfl rfl sh50 rfl rfl) ?_
 refine o_mv rfl rfl ?_
 refine o_callM rfl (wadvance_ok wh awh_0 cwh_0 to) hf32 (fun w hw => (rd_baseN (i := 8) rfl hwh_0) w hw) rfl (fun _ _ _ _ ha hA => ⟨SlRN.agree ha hA.1, SlR.agree ha hA.2⟩) ?_
 rintro ⟨a23, c24, a25, c26⟩ S21
 refine o_know (fun w hw => (hw.at (i := 0) rfl).here.1.2.1) (fun hlr27 => ?_)
 refine o_know (fun w hw => (hw.at (i := 0) rfl).here.2.2.1) (fun hlr28 => ?_)
 refine o_mv rfl rfl ?_
 refine o_ex rfl rfl rfl ?_
 refine o_ex rfl rfl rfl ?_
 refine o_ex rfl rfl rfl ?_
 refine o_alloc ze50 rfl (fun B29 => ?_)
 refine o_storeN (i := 0) (vs := [Vi ((Wh.adv wh to).now), .slice a23 ((Wh.adv wh to).slots).length c24.n]) (cs' := [Vi ((Wh.adv wh to).now), .slice a23 ((Wh.adv wh to).slots).length c24.n]) rfl rfl rfl sz50 rfl rfl rfl rfl ?_
 refine o_as rfl rfl ?_
 refine o_as rfl rfl ?_
 refine o_nil (q_then (c_seq (c_region ?_)))
 refine o_p (p_load_agg (i := 9) (vs := [Vi wh.now, .slice awh_0 wh.slots.length cwh_0.n]) rfl rfl sh50 rfl rfl) ?_
 refine o_call0 (v := .tuple #[Vi (Wh.next wh), Vi (Wh.nextErr wh)]) rfl (wnext_ok wh awh_0 cwh_0) hf33 (fun w hw => (rd_baseN (i := 10) rfl hwh_0) w hw) rfl ?_
 refine o_mv rfl rfl ?_
 refine o_ex rfl rfl rfl ?_
 refine o_ex rfl rfl rfl ?_
 refine o_as rfl rfl ?_
 refine o_as rfl rfl ?_
 refine o_nil (q_then (c_seq (c_region ?_)))
 refine o_p (p_load_agg (i := 9) (vs := [Vi wh.now, .slice awh_0 wh.slots.length cwh_0.n]) rfl rfl sh50 rfl rfl) ?_
 refine o_call0 (v := Vi (Wh.check wh)) rfl (wheelCheck_ok wh awh_0 cwh_0) hf34 (fun w hw => (rd_baseN (i := 10) rfl hwh_0) w hw) rfl ?_
 refine o_as rfl rfl ?_
 refine o_nil (q_then (c_seq (c_region ?_)))
 refine o_as rfl rfl ?_
 refine o_nil (q_then (c_seq (c_region ?_)))
 refine o_alloc ze50 rfl (fun B30 => ?_)
 refine o_alloc ze50 rfl (fun B31 => ?_)
 refine o_alloc ze50 rfl (fun B32 => ?_)
 refine o_alloc ze50 rfl (fun B33 => ?_)
 refine o_nil (q_then (c_seq (c_seq (c_region ?_))))
 refine o_mv rfl rfl ?_
 refine o_p (p_lt rfl rfl) ?_
 refine o_mv rfl rfl ?_
 refine o_or (p := 71) 3 (decide (262143 < to)) ?_ ?_ ?_
 ·intro hb34 hk
  simp only [decide_eq_false_iff_not, Int.not_lt] at hb34
  refine o_unguard 68 rfl rfl ?_
  refine o_mv rfl rfl ?_
  refine o_unguard 68 rfl rfl ?_
  refine o_p (p_gt rfl rfl) ?_
  refine o_pf rfl rfl rfl ?_
  exact o_sub (sr (Sub.skip rfl (Sub.skip rfl (Sub.skip rfl (Sub.skip rfl (Sub.refl _)))))) hk
 ·intro hb34 hk
  refine o_guard_no rfl 68 rfl rfl rfl rfl rfl ?_
  refine o_guard_no rfl 68 rfl rfl rfl rfl rfl ?_
  refine o_pt rfl rfl rfl ?_
  exact o_sub (sr (Sub.skip rfl (Sub.skip rfl (Sub.skip rfl (Sub.skip rfl (Sub.refl _)))))) hk
 refine o_nil (q_then ?_)
 refine c_ownNilN tTimer ?_
 refine c_join (G := Int × DWheel × Option Addr × NC × (Nat → Prop))
  (fun ⟨empty, no, ano_0, cno_0, Sno_0⟩ => [(2, Vi id), (3, Vi to), (4, .pointer (some ⟨B1, 0, none⟩)), (5, .pointer (some ⟨B2, 0, none⟩)), (9, .pointer (some ⟨B8, 0, none⟩)), (10, Vi (Wh.newErr to)), (11, .pointer (some ⟨B14, 0, none⟩)), (12, Vi (Wh.addErr wh t)), (13, .pointer (some ⟨B20, 0, none⟩)), (14, Vi (Wh.cancelErr wh id)), (15, .pointer (some ⟨B29, 0, none⟩)), (16, .slice a25 (Wh.gone wh to).length c26), (17, Vi (Wh.advErr wh to)), (18, Vi (Wh.next wh)), (19, Vi (Wh.nextErr wh)), (20, Vi (Wh.check wh)), (21, Vi empty), (22, .pointer (some ⟨B30, 0, none⟩)), (23, .pointer (some ⟨B31, 0, none⟩)), (24, .pointer (some ⟨B32, 0, none⟩)), (25, .pointer (some ⟨B33, 0, none⟩))])
  (fun ⟨empty, no, ano_0, cno_0, Sno_0⟩ => [ownN tTimer Sno_0 ano_0 cno_0 no.slots, box B33 [Vi 0, .slice none 0 0] 50, box B32 [Vi 0, .slice none 0 0] 50, box B31 [Vi 0, .slice none 0 0] 50, box B30 [Vi no.now, .slice ano_0 no.slots.length cno_0.n] 50, box B29 [Vi ((Wh.adv wh to).now), .slice a23 ((Wh.adv wh to).slots).length c24.n] 50, ⟨S21, fun w => SlRN tTimer S21 w a23 c24 ((Wh.adv wh to).slots) ∧ SlR tTimer S21 w a25 c26 (Wh.gone wh to)⟩, box B20 [Vi ((Wh.cancel wh id).now), .slice a17 ((Wh.cancel wh id).slots).length c18.n] 50, ownN tTimer S15 a17 c18 ((Wh.cancel wh id).slots), box B14 [Vi ((Wh.add wh t).now), .slice a11 ((Wh.add wh t).slots).length c12.n] 50, ownN tTimer S9 a11 c12 ((Wh.add wh t).slots), box B8 [Vi ((Wh.new to).now), .slice a5 ((Wh.new to).slots).length c6.n] 50, ownN tTimer S3 a5 c6 ((Wh.new to).slots), box B2 [Vi t.id, Vi t.due] 52, box B1 [Vi wh.now, .slice awh_0 wh.slots.length cwh_0.n] 50, base w0])
  (fun ⟨empty, no, ano_0, cno_0, Sno_0⟩ => no = Wh.new to ∧ empty = Wh.newErr to)
  (fun K hK36 => ?_) ?_
 ·refine c_cond rfl (fun hc37 => ?_) (fun hc37 => ?_)
  ·simp only [Bool.or_eq_true, decide_eq_true_eq] at hc37
   have hrg : to < 0 ∨ 262143 < to := by omega
   refine c_region ?_
   refine o_as rfl rfl ?_
   refine o_nil ?_
   refine q_join hK36 (3, (⟨0, []⟩ : DWheel), none, nc0, (fun _ => False)) ?_ (sr (sr (sr (sr (sr (sr (sr (sr (sr (sr (sr (sr (sr (sr (sr (sr (sr (sr (sr (sr (sr (Sub.nil _)))))))))))))))))))))) (pk [0, 1, 2, 3, 4, 5, 6, 7, 8, 9, 10, 11, 12, 13, 14, 15])
   clear hK36
   first | exact Wh.sp_no1 hrg | exact Wh.sp_no2 hto
  ·simp only [Bool.or_eq_false_iff, decide_eq_false_iff_not, Int.not_lt] at hc37
   have hto : 0 ≤ to ∧ to ≤ 262143 := by omega
   refine c_region ?_
   refine o_mv rfl rfl ?_
   refine o_callM rfl (wheelOf_ok to [] none 0 (by first | assumption | exact Wh.ofh hto Wh.dw_nil | exact Wh.ofh hnw hdd | exact Wh.ofh hnw hdl | exact Wh.ofh hto hda)) hf35 (fun w hw => rd_nil w hw) rfl (fun _ _ _ _ ha hA => SlON.agree ha hA) ?_
   rintro ⟨a40, c41⟩ S38
   refine o_know (fun w hw => own_lenN (i := 0) (T := tTimer) hw rfl) (fun hlr42 => ?_)
   refine o_storeN (i := 5) (vs := [Vi ((Wh.of to []).now), .slice a40 ((Wh.of to []).slots).length c41.n]) (cs' := [Vi ((Wh.of to []).now), .slice a40 ((Wh.of to []).slots).length c41.n]) rfl rfl rfl sz50 rfl rfl rfl rfl ?_
   refine o_nil ?_
   refine q_join hK36 (0, (Wh.of to []), a40, c41, S38) ?_ (sr (sr (sr (sr (sr (sr (sr (sr (sr (sr (sr (sr (sr (sr (sr (sr (sr (sr (sr (sr (sr (Sub.nil _)))))))))))))))))))))) (pk [0, 2, 3, 4, 5, 6, 7, 8, 9, 10, 11, 12, 13, 14, 15, 16])
   clear hK36
   first | exact Wh.sp_no1 hrg | exact Wh.sp_no2 hto
 rintro ⟨empty, no, ano_0, cno_0, Sno_0⟩ hj0
 show SQ _ 239 w0 _ _ [(2, Vi id), (3, Vi to), (4, .pointer (some ⟨B1, 0, none⟩)), (5, .pointer (some ⟨B2, 0, none⟩)), (9, .pointer (some ⟨B8, 0, none⟩)), (10, Vi (Wh.newErr to)), (11, .pointer (some ⟨B14, 0, none⟩)), (12, Vi (Wh.addErr wh t)), (13, .pointer (some ⟨B20, 0, none⟩)), (14, Vi (Wh.cancelErr wh id)), (15, .pointer (some ⟨B29, 0, none⟩)), (16, .slice a25 (Wh.gone wh to).length c26), (17, Vi (Wh.advErr wh to)), (18, Vi (Wh.next wh)), (19, Vi (Wh.nextErr wh)), (20, Vi (Wh.check wh)), (21, Vi empty), (22, .pointer (some ⟨B30, 0, none⟩)), (23, .pointer (some ⟨B31, 0, none⟩)), (24, .pointer (some ⟨B32, 0, none⟩)), (25, .pointer (some ⟨B33, 0, none⟩))] [ownN tTimer Sno_0 ano_0 cno_0 no.slots, box B33 [Vi 0, .slice none 0 0] 50, box B32 [Vi 0, .slice none 0 0] 50, box B31 [Vi 0, .slice none 0 0] 50, box B30 [Vi no.now, .slice ano_0 no.slots.length cno_0.n] 50, box B29 [Vi ((Wh.adv wh to).now), .slice a23 ((Wh.adv wh to).slots).length c24.n] 50, ⟨S21, fun w => SlRN tTimer S21 w a23 c24 ((Wh.adv wh to).slots) ∧ SlR tTimer S21 w a25 c26 (Wh.gone wh to)⟩, box B20 [Vi ((Wh.cancel wh id).now), .slice a17 ((Wh.cancel wh id).slots).length c18.n] 50, ownN tTimer S15 a17 c18 ((Wh.cancel wh id).slots), box B14 [Vi ((Wh.add wh t).now), .slice a11 ((Wh.add wh t).slots).length c12.n] 50, ownN tTimer S9 a11 c12 ((Wh.add wh t).slots), box B8 [Vi ((Wh.new to).now), .slice a5 ((Wh.new to).slots).length c6.n] 50, ownN tTimer S3 a5 c6 ((Wh.new to).slots), box B2 [Vi t.id, Vi t.due] 52, box B1 [Vi wh.now, .slice awh_0 wh.slots.length cwh_0.n] 50, base w0]
 refine q_then (c_seq (c_region ?_))
 refine o_mv rfl rfl ?_
 refine o_mv rfl rfl ?_
 refine o_mv rfl rfl ?_
 refine o_mv rfl rfl ?_
 refine o_as rfl rfl ?_
 refine o_as rfl rfl ?_
 refine o_as rfl rfl ?_
 refine o_as rfl rfl ?_
 refine o_nil (q_then (c_seq (c_region ?_)))
 refine o_as rfl rfl ?_
 refine o_nil (q_then (c_seq (c_region ?_)))
 refine o_as rfl rfl ?_
 refine o_nil (q_then (c_seq (c_seq (c_region ?_))))
 refine o_mv rfl rfl ?_
 refine o_p (p_eq rfl rfl) ?_
 refine o_nil (q_then ?_)
 refine c_ownNil tTimer ?_
 refine c_ownNilN tTimer ?_
 refine c_ownNilN tTimer ?_
 refine c_ownNilN tTimer ?_
 refine c_join (G := Int × Int × Int × Int × List DTimer × Option Addr × Nat × (Nat → Prop) × Int × DWheel × Option Addr × NC × (Nat → Prop) × DWheel × Option Addr × NC × (Nat → Prop) × DWheel × Option Addr × NC × (Nat → Prop))
  (fun ⟨v, u, o, p, go1, ago1, cgo1, Sgo1, next, ad, aad_0, cad_0, Sad_0, sp, asp_0, csp_0, Ssp_0, la, ala_0, cla_0, Sla_0⟩ => [(4, .pointer (some ⟨B1, 0, none⟩)), (9, .pointer (some ⟨B8, 0, none⟩)), (10, Vi (Wh.newErr to)), (11, .pointer (some ⟨B14, 0, none⟩)), (12, Vi (Wh.addErr wh t)), (13, .pointer (some ⟨B20, 0, none⟩)), (14, Vi (Wh.cancelErr wh id)), (15, .pointer (some ⟨B29, 0, none⟩)), (16, .slice a25 (Wh.gone wh to).length c26), (17, Vi (Wh.advErr wh to)), (18, Vi (Wh.next wh)), (19, Vi (Wh.nextErr wh)), (20, Vi (Wh.check wh)), (21, Vi empty), (22, .pointer (some ⟨B30, 0, none⟩)), (23, .pointer (some ⟨B31, 0, none⟩)), (24, .pointer (some ⟨B32, 0, none⟩)), (25, .pointer (some ⟨B33, 0, none⟩)), (26, Vi v), (27, Vi u), (28, Vi o), (29, Vi p), (30, .slice ago1 go1.length cgo1), (31, Vi next)])
  (fun ⟨v, u, o, p, go1, ago1, cgo1, Sgo1, next, ad, aad_0, cad_0, Sad_0, sp, asp_0, csp_0, Ssp_0, la, ala_0, cla_0, Sla_0⟩ => [ownN tTimer Sla_0 ala_0 cla_0 la.slots, ownN tTimer Ssp_0 asp_0 csp_0 sp.slots, ownN tTimer Sad_0 aad_0 cad_0 ad.slots, own tTimer Sgo1 ago1 cgo1 go1, ownN tTimer Sno_0 ano_0 cno_0 no.slots, box B33 [Vi la.now, .slice ala_0 la.slots.length cla_0.n] 50, box B32 [Vi sp.now, .slice asp_0 sp.slots.length csp_0.n] 50, box B31 [Vi ad.now, .slice aad_0 ad.slots.length cad_0.n] 50, box B30 [Vi no.now, .slice ano_0 no.slots.length cno_0.n] 50, box B29 [Vi ((Wh.adv wh to).now), .slice a23 ((Wh.adv wh to).slots).length c24.n] 50, ⟨S21, fun w => SlRN tTimer S21 w a23 c24 ((Wh.adv wh to).slots) ∧ SlR tTimer S21 w a25 c26 (Wh.gone wh to)⟩, box B20 [Vi ((Wh.cancel wh id).now), .slice a17 ((Wh.cancel wh id).slots).length c18.n] 50, ownN tTimer S15 a17 c18 ((Wh.cancel wh id).slots), box B14 [Vi ((Wh.add wh t).now), .slice a11 ((Wh.add wh t).slots).length c12.n] 50, ownN tTimer S9 a11 c12 ((Wh.add wh t).slots), box B8 [Vi ((Wh.new to).now), .slice a5 ((Wh.new to).slots).length c6.n] 50, ownN tTimer S3 a5 c6 ((Wh.new to).slots), box B2 [Vi t.id, Vi t.due] 52, box B1 [Vi wh.now, .slice awh_0 wh.slots.length cwh_0.n] 50, base w0])
  (fun ⟨v, u, o, p, go1, ago1, cgo1, Sgo1, next, ad, aad_0, cad_0, Sad_0, sp, asp_0, csp_0, Ssp_0, la, ala_0, cla_0, Sla_0⟩ => (v = Wh.addErr wh t ∧ ad = Wh.add wh t) ∧ (u = Wh.cancelErr wh id ∧ sp = Wh.cancel wh id) ∧ (o = Wh.advErr wh to ∧ la = Wh.adv wh to) ∧ (p = Wh.nextErr wh ∧ next = Wh.next wh) ∧ (o = 0 → go1 = Wh.gone wh to))
  (fun K hK47 => ?_) ?_
 ·refine c_cond rfl (fun hc48 => ?_) (fun hc48 => ?_)
  ·simp only [beq_iff_eq] at hc48
   have hch := hc48
   have hok := Wh.check_ok.1 hc48
   have hnw := hok.now
   have hfew := hok.few
   have hil := Wh.isort_len (Wh.timers wh.slots)
   have hda := Wh.dw_all hok
   refine c_seq (c_region ?_)
   refine o_p (p_load_agg (i := 18) (vs := [Vi wh.now, .slice awh_0 wh.slots.length cwh_0.n]) rfl rfl sh50 rfl rfl) ?_
   refine o_callM rfl (wheelAll_ok wh awh_0 cwh_0 (by first | assumption | exact hok.few)) hf36 (fun w hw => (rd_baseN (i := 19) rfl hwh_0) w hw) rfl (fun _ _ _ _ ha hA => SlO.agree ha hA) ?_
   rintro ⟨a51, c52⟩ S49
   refine o_know (fun w hw => own_len (i := 0) (T := tTimer) hw rfl) (fun hlr53 => ?_)
   refine o_as rfl rfl ?_
   refine o_nil (q_then (c_seq (c_region ?_)))
   refine o_as rfl rfl ?_
   refine o_nil (q_then (c_seq (c_seq (c_region ?_))))
   refine o_as rfl rfl ?_
   refine o_nil (q_then (c_block ?_))
   refine c_ownNil tTimer ?_
   refine c_ownNil tTimer ?_
   refine c_loop (St := List DTimer × Option Addr × Nat × (Nat → Prop) × List DTimer × Option Addr × Nat × (Nat → Prop) × Nat)
    (fun ⟨go1, ago1, cgo1, Sgo1, left, aleft, cleft, Sleft, i⟩ => [(2, Vi id), (3, Vi to), (4, .pointer (some ⟨B1, 0, none⟩)), (5, .pointer (some ⟨B2, 0, none⟩)), (9, .pointer (some ⟨B8, 0, none⟩)), (10, Vi (Wh.newErr to)), (11, .pointer (some ⟨B14, 0, none⟩)), (12, Vi (Wh.addErr wh t)), (13, .pointer (some ⟨B20, 0, none⟩)), (14, Vi (Wh.cancelErr wh id)), (15, .pointer (some ⟨B29, 0, none⟩)), (16, .slice a25 (Wh.gone wh to).length c26), (17, Vi (Wh.advErr wh to)), (18, Vi (Wh.next wh)), (19, Vi (Wh.nextErr wh)), (20, Vi (Wh.check wh)), (21, Vi empty), (22, .pointer (some ⟨B30, 0, none⟩)), (23, .pointer (some ⟨B31, 0, none⟩)), (24, .pointer (some ⟨B32, 0, none⟩)), (25, .pointer (some ⟨B33, 0, none⟩)), (26, Vi (Wh.check wh)), (27, Vi (Wh.check wh)), (28, Vi (Wh.check wh)), (29, Vi (Wh.check wh)), (30, .slice ago1 go1.length cgo1), (31, Vi 0), (32, .slice a51 (Wh.timers wh.slots).length c52), (33, .slice aleft left.length cleft), (34, Vi (i : Int))])
    (fun ⟨go1, ago1, cgo1, Sgo1, left, aleft, cleft, Sleft, i⟩ => [own tTimer Sleft aleft cleft left, own tTimer Sgo1 ago1 cgo1 go1, own tTimer S49 a51 c52 (Wh.timers wh.slots), ownN tTimer (fun _ => False) none nc0 ([]), ownN tTimer (fun _ => False) none nc0 ([]), ownN tTimer (fun _ => False) none nc0 ([]), own tTimer (fun _ => False) none 0 ([]), ownN tTimer Sno_0 ano_0 cno_0 no.slots, box B33 [Vi 0, .slice none 0 0] 50, box B32 [Vi 0, .slice none 0 0] 50, box B31 [Vi 0, .slice none 0 0] 50, box B30 [Vi no.now, .slice ano_0 no.slots.length cno_0.n] 50, box B29 [Vi ((Wh.adv wh to).now), .slice a23 ((Wh.adv wh to).slots).length c24.n] 50, ⟨S21, fun w => SlRN tTimer S21 w a23 c24 ((Wh.adv wh to).slots) ∧ SlR tTimer S21 w a25 c26 (Wh.gone wh to)⟩, box B20 [Vi ((Wh.cancel wh id).now), .slice a17 ((Wh.cancel wh id).slots).length c18.n] 50, ownN tTimer S15 a17 c18 ((Wh.cancel wh id).slots), box B14 [Vi ((Wh.add wh t).now), .slice a11 ((Wh.add wh t).slots).length c12.n] 50, ownN tTimer S9 a11 c12 ((Wh.add wh t).slots), box B8 [Vi ((Wh.new to).now), .slice a5 ((Wh.new to).slots).length c6.n] 50, ownN tTimer S3 a5 c6 ((Wh.new to).slots), box B2 [Vi t.id, Vi t.due] 52, box B1 [Vi wh.now, .slice awh_0 wh.slots.length cwh_0.n] 50, base w0])
    (fun ⟨go1, ago1, cgo1, Sgo1, left, aleft, cleft, Sleft, i⟩ => i ≤ (Wh.timers wh.slots).length ∧ left = ((Wh.timers wh.slots).take i).filter (fun t => decide (¬ t.id = id)) ∧ go1 = ((Wh.timers wh.slots).take i).filter (fun t => decide (wh.now ≤ to) && decide (t.due ≤ to)))
    (fun ⟨go1, ago1, cgo1, Sgo1, left, aleft, cleft, Sleft, i⟩ => (Wh.timers wh.slots).length - i)
    ([], none, 0, (fun _ => False), [], none, 0, (fun _ => False), 0) ?_ (sr (sr (sr (sr (sr (sr (sr (sr (sr (sr (sr (sr (sr (sr (sr (sr (sr (sr (sr (sr (sr (sr (sr (sr (sr (sr (sr (sr (sr (sr (Sub.nil _))))))))))))))))))))))))))))))) (fun _ hw => hw) ?_
   ·exact ⟨Nat.zero_le _, rfl, rfl⟩
   rintro ⟨go1, ago1, cgo1, Sgo1, left, aleft, cleft, Sleft, i⟩ hI K hK56
   have hle9 := Wh.fl_len hI.2.1
   have hge9 := Wh.fl_len hI.2.2
   show SC _ _ Try.prog 239 w0 _ _ [(2, Vi id), (3, Vi to), (4, .pointer (some ⟨B1, 0, none⟩)), (5, .pointer (some ⟨B2, 0, none⟩)), (9, .pointer (some ⟨B8, 0, none⟩)), (10, Vi (Wh.newErr to)), (11, .pointer (some ⟨B14, 0, none⟩)), (12, Vi (Wh.addErr wh t)), (13, .pointer (some ⟨B20, 0, none⟩)), (14, Vi (Wh.cancelErr wh id)), (15, .pointer (some ⟨B29, 0, none⟩)), (16, .slice a25 (Wh.gone wh to).length c26), (17, Vi (Wh.advErr wh to)), (18, Vi (Wh.next wh)), (19, Vi (Wh.nextErr wh)), (20, Vi (Wh.check wh)), (21, Vi empty), (22, .pointer (some ⟨B30, 0, none⟩)), (23, .pointer (some ⟨B31, 0, none⟩)), (24, .pointer (some ⟨B32, 0, none⟩)), (25, .pointer (some ⟨B33, 0, none⟩)), (26, Vi (Wh.check wh)), (27, Vi (Wh.check wh)), (28, Vi (Wh.check wh)), (29, Vi (Wh.check wh)), (30, .slice ago1 go1.length cgo1), (31, Vi 0), (32, .slice a51 (Wh.timers wh.slots).length c52), (33, .slice aleft left.length cleft), (34, Vi (i : Int))] [own tTimer Sleft aleft cleft left, own tTimer Sgo1 ago1 cgo1 go1, own tTimer S49 a51 c52 (Wh.timers wh.slots), ownN tTimer (fun _ => False) none nc0 ([]), ownN tTimer (fun _ => False) none nc0 ([]), ownN tTimer (fun _ => False) none nc0 ([]), own tTimer (fun _ => False) none 0 ([]), ownN tTimer Sno_0 ano_0 cno_0 no.slots, box B33 [Vi 0, .slice none 0 0] 50, box B32 [Vi 0, .slice none 0 0] 50, box B31 [Vi 0, .slice none 0 0] 50, box B30 [Vi no.now, .slice ano_0 no.slots.length cno_0.n] 50, box B29 [Vi ((Wh.adv wh to).now), .slice a23 ((Wh.adv wh to).slots).length c24.n] 50, ⟨S21, fun w => SlRN tTimer S21 w a23 c24 ((Wh.adv wh to).slots) ∧ SlR tTimer S21 w a25 c26 (Wh.gone wh to)⟩, box B20 [Vi ((Wh.cancel wh id).now), .slice a17 ((Wh.cancel wh id).slots).length c18.n] 50, ownN tTimer S15 a17 c18 ((Wh.cancel wh id).slots), box B14 [Vi ((Wh.add wh t).now), .slice a11 ((Wh.add wh t).slots).length c12.n] 50, ownN tTimer S9 a11 c12 ((Wh.add wh t).slots), box B8 [Vi ((Wh.new to).now), .slice a5 ((Wh.new to).slots).length c6.n] 50, ownN tTimer S3 a5 c6 ((Wh.new to).slots), box B2 [Vi t.id, Vi t.due] 52, box B1 [Vi wh.now, .slice awh_0 wh.slots.length cwh_0.n] 50, base w0]
   refine c_seq (c_seq (c_region ?_))
   refine o_mv rfl rfl ?_
   refine o_mv rfl rfl ?_
   refine o_p (p_len_slice rfl rfl Try.underlying57) ?_
   refine o_p (p_lt rfl rfl) ?_
   refine o_nil (q_then ?_)
   refine c_cond rfl (fun hc57 => ?_) (fun hc57 => ?_)
   ·simp only [decide_eq_true_eq] at hc57
    refine c_skip (q_then (c_seq (c_block (c_seq (c_seq (c_region ?_))))))
    refine o_mv rfl rfl ?_
    refine o_mv rfl rfl ?_
    refine o_p (p_indexAddr (L := (Wh.timers wh.slots)) (T := tTimer) (i := (i : Int)) rfl rfl (rd_own (i := 2) rfl) Try.underlying57 sz52 (by omega) (by omega)) ?_
    refine o_p (p_fieldAddrE rfl fo52_0) ?_
    refine o_p (p_loadF (i := i) (j := 0) (T := tTimer) (L := (Wh.timers wh.slots)) (v := Vi (((Wh.timers wh.slots).getD i default).id)) rfl (rd_own (i := 2) rfl) (by first | assumption | omega) sh3 (congrArg (fun z => (tTimer.enc z)[0]?) (getd_at (by first | assumption | omega) default))) ?_
    refine o_mv rfl rfl ?_
    refine o_p (p_ne rfl rfl) ?_
    refine o_nil (q_then ?_)
    refine c_cond rfl (fun hc58 => ?_) (fun hc58 => ?_)
    ·simp only [bne_iff_ne, ne_eq] at hc58
     have hid := hc58
     refine c_region ?_
     refine o_mv rfl rfl ?_
     refine o_mv rfl rfl ?_
     refine o_mv rfl rfl ?_
     refine o_p (p_indexAddr (L := (Wh.timers wh.slots)) (T := tTimer) (i := (i : Int)) rfl rfl (rd_own (i := 2) rfl) Try.underlying57 sz52 (by omega) (by omega)) ?_
     refine o_p (p_loadEn (i := i) (T := tTimer) (L := (Wh.timers wh.slots)) (vs := [Vi (((Wh.timers wh.slots).getD i default).id), Vi (((Wh.timers wh.slots).getD i default).due)]) rfl (rd_own (i := 2) rfl) (by first | assumption | omega) sh52 (congrArg tTimer.enc (getd_at (by first | assumption | omega) default))) ?_
     refine o_buildSlice (m := 1) (T := tTimer) (L := [(⟨((Wh.timers wh.slots).getD i default).id, ((Wh.timers wh.slots).getD i default).due⟩ : DTimer)]) (vs := [.agg #[Vi (((Wh.timers wh.slots).getD i default).id), Vi (((Wh.timers wh.slots).getD i default).due)]]) rfl rfl rfl rfl Try.underlying57 sz52 (by decide) ze52 rfl (by decide) rfl (fun S59 a60 => ?_)
     refine o_append (i := 1) (L := left) (M := [(⟨((Wh.timers wh.slots).getD i default).id, ((Wh.timers wh.slots).getD i default).due⟩ : DTimer)]) (T := tTimer) rfl rfl rfl (rd_own (i := 0) rfl) Try.underlying57 Try.underlying57 (by intro k h; cases h) el52 (by intro z; simp [tTimer, one1]) (by decide) (by first | omega | (simp only [List.length_cons, List.length_nil]; omega) | (simp only [List.length_append, List.length_cons, List.length_nil, List.length_take, List.length_drop]; omega)) rfl (fun a62 c63 S64 => ?_)
     refine o_as rfl rfl ?_
     refine o_nil (q_then (c_seq (c_region ?_)))
     refine o_mv rfl rfl ?_
     refine o_p (p_fieldAddr (j' := 0) rfl fo50_0 rfl) ?_
     refine o_p (p_load (i := 22) (v := Vi wh.now) rfl rfl sh3 rfl) ?_
     refine o_p (p_ge rfl rfl) ?_
     refine o_mv rfl rfl ?_
     refine o_and (p := 114) 8 (decide (((Wh.timers wh.slots).getD i default).due ≤ to)) ?_ ?_ ?_
     ·intro hb65 hk
      simp only [decide_eq_true_eq] at hb65
      refine o_unguard 106 rfl rfl ?_
      refine o_mv rfl rfl ?_
      refine o_unguard 106 rfl rfl ?_
      refine o_mv rfl rfl ?_
      refine o_unguard 106 rfl rfl ?_
      refine o_p (p_indexAddr (L := (Wh.timers wh.slots)) (T := tTimer) (i := (i : Int)) rfl rfl (rd_own (i := 3) rfl) Try.underlying57 sz52 (by omega) (by omega)) ?_
      refine o_unguard 106 rfl rfl ?_
      refine o_p (p_fieldAddrE rfl fo52_1) ?_
      refine o_unguard 106 rfl rfl ?_
      refine o_p (p_loadF (i := i) (j := 1) (T := tTimer) (L := (Wh.timers wh.slots)) (v := Vi (((Wh.timers wh.slots).getD i default).due)) rfl (rd_own (i := 3) rfl) (by first | assumption | omega) sh3 (congrArg (fun z => (tTimer.enc z)[1]?) (getd_at (by first | assumption | omega) default))) ?_
      refine o_unguard 106 rfl rfl ?_
      refine o_mv rfl rfl ?_
      refine o_unguard 106 rfl rfl ?_
      refine o_p (p_le rfl rfl) ?_
      refine o_pt rfl rfl rfl ?_
      exact o_sub (sr (Sub.skip rfl (Sub.skip rfl (Sub.skip rfl (Sub.skip rfl (Sub.skip rfl (Sub.skip rfl (Sub.skip rfl (Sub.skip rfl (Sub.skip rfl (Sub.refl _))))))))))) hk
     ·intro hb65 hk
      refine o_guard_no rfl 106 rfl rfl rfl rfl rfl ?_
      refine o_guard_no rfl 106 rfl rfl rfl rfl rfl ?_
      refine o_guard_no rfl 106 rfl rfl rfl rfl rfl ?_
      refine o_guard_no rfl 106 rfl rfl rfl rfl rfl ?_
      refine o_guard_no rfl 106 rfl rfl rfl rfl rfl ?_
      refine o_guard_no rfl 106 rfl rfl rfl rfl rfl ?_
      refine o_guard_no rfl 106 rfl rfl rfl rfl rfl ?_
      refine o_pf rfl rfl rfl ?_
      exact o_sub (sr (Sub.skip rfl (Sub.skip rfl (Sub.skip rfl (Sub.skip rfl (Sub.skip rfl (Sub.skip rfl (Sub.skip rfl (Sub.skip rfl (Sub.skip rfl (Sub.refl _))))))))))) hk
     refine o_nil (q_then ?_)
     refine c_cond rfl (fun hc66 => ?_) (fun hc66 => ?_)
     ·simp only [Bool.and_eq_true, decide_eq_true_eq] at hc66
      have hdu := hc66
      refine c_region ?_
      refine o_mv rfl rfl ?_
      refine o_mv rfl rfl ?_
      refine o_mv rfl rfl ?_
      refine o_p (p_indexAddr (L := (Wh.timers wh.slots)) (T := tTimer) (i := (i : Int)) rfl rfl (rd_own (i := 3) rfl) Try.underlying57 sz52 (by omega) (by omega)) ?_
      refine o_p (p_loadEn (i := i) (T := tTimer) (L := (Wh.timers wh.slots)) (vs := [Vi (((Wh.timers wh.slots).getD i default).id), Vi (((Wh.timers wh.slots).getD i default).due)]) rfl (rd_own (i := 3) rfl) (by first | assumption | omega) sh52 (congrArg tTimer.enc (getd_at (by first | assumption | omega) default))) ?_
      refine o_buildSlice (m := 1) (T := tTimer) (L := [(⟨((Wh.timers wh.slots).getD i default).id, ((Wh.timers wh.slots).getD i default).due⟩ : DTimer)]) (vs := [.agg #[Vi (((Wh.timers wh.slots).getD i default).id), Vi (((Wh.timers wh.slots).getD i default).due)]]) rfl rfl rfl rfl Try.underlying57 sz52 (by decide) ze52 rfl (by decide) rfl (fun S67 a68 => ?_)
      refine o_append (i := 3) (L := go1) (M := [(⟨((Wh.timers wh.slots).getD i default).id, ((Wh.timers wh.slots).getD i default).due⟩ : DTimer)]) (T := tTimer) rfl rfl rfl (rd_own (i := 0) rfl) Try.underlying57 Try.underlying57 (by intro k h; cases h) el52 (by intro z; simp [tTimer, one1]) (by decide) (by first | omega | (simp only [List.length_cons, List.length_nil]; omega) | (simp only [List.length_append, List.length_cons, List.length_nil, List.length_take, List.length_drop]; omega)) rfl (fun a70 c71 S72 => ?_)
      refine o_as rfl rfl ?_
      refine o_nil ?_
      refine q_block_normal (q_then ?_)
      refine c_region ?_
      refine o_mv rfl rfl ?_
      refine o_p (p_addb rfl rfl (by omega)) ?_
      refine o_as rfl rfl ?_
      refine o_nil ?_
      refine q_round hK56 ((go1 ++ [(⟨((Wh.timers wh.slots).getD i default).id, ((Wh.timers wh.slots).getD i default).due⟩ : DTimer)]), a70, c71, S72, (left ++ [(⟨((Wh.timers wh.slots).getD i default).id, ((Wh.timers wh.slots).getD i default).due⟩ : DTimer)]), a62, c63, S64, i + 1) ?_ ?_ ?_ ?_
      ·clear hK56
       refine ⟨by omega, ?_, ?_⟩
       ·first | exact Wh.fl_yes hI.2.1 (by omega) (decide_eq_true hid) | exact Wh.fl_no hI.2.1 (by omega) (decide_eq_false (fun h9 => h9 hid))
       ·first | exact Wh.fl_yes hI.2.2 (by omega) (by simpa using hdu) | exact Wh.fl_no hI.2.2 (by omega) (Wh.du_no hdu)
      ·(try dsimp only); omega
      ·exact sr (sr (sr (sr (sr (sr (sr (sr (sr (sr (sr (sr (sr (sr (sr (sr (sr (sr (sr (sr (sr (sr (sr (sr (sr (sr (sr (sr (sr (sr (Sub.nil _))))))))))))))))))))))))))))))
      ·exact pk [2, 3, 4, 5, 6, 7, 8, 9, 10, 11, 12, 13, 14, 15, 16, 17, 18, 19, 20, 21, 22, 23, 24]
     ·simp only [Bool.and_eq_false_iff, decide_eq_false_iff_not, Int.not_le] at hc66
      have hdu := hc66
      refine c_skip ?_
      refine q_block_normal (q_then ?_)
      refine c_region ?_
      refine o_mv rfl rfl ?_
      refine o_p (p_addb rfl rfl (by omega)) ?_
      refine o_as rfl rfl ?_
      refine o_nil ?_
      refine q_round hK56 (go1, ago1, cgo1, Sgo1, (left ++ [(⟨((Wh.timers wh.slots).getD i default).id, ((Wh.timers wh.slots).getD i default).due⟩ : DTimer)]), a62, c63, S64, i + 1) ?_ ?_ ?_ ?_
      ·clear hK56
       refine ⟨by omega, ?_, ?_⟩
       ·first | exact Wh.fl_yes hI.2.1 (by omega) (decide_eq_true hid) | exact Wh.fl_no hI.2.1 (by omega) (decide_eq_false (fun h9 => h9 hid))
       ·first | exact Wh.fl_yes hI.2.2 (by omega) (by simpa using hdu) | exact Wh.fl_no hI.2.2 (by omega) (Wh.du_no hdu)
      ·(try dsimp only); omega
      ·exact sr (sr (sr (sr (sr (sr (sr (sr (sr (sr (sr (sr (sr (sr (sr (sr (sr (sr (sr (sr (sr (sr (sr (sr (sr (sr (sr (sr (sr (sr (Sub.nil _))))))))))))))))))))))))))))))
      ·exact pk [1, 2, 3, 4, 5, 6, 7, 8, 9, 10, 11, 12, 13, 14, 15, 16, 17, 18, 19, 20, 21, 22, 23]
    ·simp only [bne_eq_false_iff_eq] at hc58
     have hid := hc58
     refine c_skip (q_then (c_seq (c_region ?_)))
     refine o_mv rfl rfl ?_
     refine o_p (p_fieldAddr (j' := 0) rfl fo50_0 rfl) ?_
     refine o_p (p_load (i := 21) (v := Vi wh.now) rfl rfl sh3 rfl) ?_
     refine o_p (p_ge rfl rfl) ?_
     refine o_mv rfl rfl ?_
     refine o_and (p := 114) 8 (decide (((Wh.timers wh.slots).getD i default).due ≤ to)) ?_ ?_ ?_
     ·intro hb73 hk
      simp only [decide_eq_true_eq] at hb73
      refine o_unguard 106 rfl rfl ?_
      refine o_mv rfl rfl ?_
      refine o_unguard 106 rfl rfl ?_
      refine o_mv rfl rfl ?_
      refine o_unguard 106 rfl rfl ?_
      refine o_p (p_indexAddr (L := (Wh.timers wh.slots)) (T := tTimer) (i := (i : Int)) rfl rfl (rd_own (i := 2) rfl) Try.underlying57 sz52 (by omega) (by omega)) ?_
      refine o_unguard 106 rfl rfl ?_
      refine o_p (p_fieldAddrE rfl fo52_1) ?_
      refine o_unguard 106 rfl rfl ?_
      refine o_p (p_loadF (i := i) (j := 1) (T := tTimer) (L := (Wh.timers wh.slots)) (v := Vi (((Wh.timers wh.slots).getD i default).due)) rfl (rd_own (i := 2) rfl) (by first | assumption | omega) sh3 (congrArg (fun z => (tTimer.enc z)[1]?) (getd_at (by first | assumption | omega) default))) ?_
      refine o_unguard 106 rfl rfl ?_
      refine o_mv rfl rfl ?_
      refine o_unguard 106 rfl rfl ?_
      refine o_p (p_le rfl rfl) ?_
      refine o_pt rfl rfl rfl ?_
      exact o_sub (sr (Sub.skip rfl (Sub.skip rfl (Sub.skip rfl (Sub.skip rfl (Sub.skip rfl (Sub.skip rfl (Sub.skip rfl (Sub.skip rfl (Sub.skip rfl (Sub.refl _))))))))))) hk
     ·intro hb73 hk
      refine o_guard_no rfl 106 rfl rfl rfl rfl rfl ?_
      refine o_guard_no rfl 106 rfl rfl rfl rfl rfl ?_
      refine o_guard_no rfl 106 rfl rfl rfl rfl rfl ?_
      refine o_guard_no rfl 106 rfl rfl rfl rfl rfl ?_
      refine o_guard_no rfl 106 rfl rfl rfl rfl rfl ?_
      refine o_guard_no rfl 106 rfl rfl rfl rfl rfl ?_
      refine o_guard_no rfl 106 rfl rfl rfl rfl rfl ?_
      refine o_pf rfl rfl rfl ?_
      exact o_sub (sr (Sub.skip rfl (Sub.skip rfl (Sub.skip rfl (Sub.skip rfl (Sub.skip rfl (Sub.skip rfl (Sub.skip rfl (Sub.skip rfl (Sub.skip rfl (Sub.refl _))))))))))) hk
     refine o_nil (q_then ?_)
     refine c_cond rfl (fun hc74 => ?_) (fun hc74 => ?_)
     ·simp only [Bool.and_eq_true, decide_eq_true_eq] at hc74
      have hdu := hc74
      refine c_region ?_
      refine o_mv rfl rfl ?_
      refine o_mv rfl rfl ?_
      refine o_mv rfl rfl ?_
      refine o_p (p_indexAddr (L := (Wh.timers wh.slots)) (T := tTimer) (i := (i : Int)) rfl rfl (rd_own (i := 2) rfl) Try.underlying57 sz52 (by omega) (by omega)) ?_
      refine o_p (p_loadEn (i := i) (T := tTimer) (L := (Wh.timers wh.slots)) (vs := [Vi (((Wh.timers wh.slots).getD i default).id), Vi (((Wh.timers wh.slots).getD i default).due)]) rfl (rd_own (i := 2) rfl) (by first | assumption | omega) sh52 (congrArg tTimer.enc (getd_at (by first | assumption | omega) default))) ?_
      refine o_buildSlice (m := 1) (T := tTimer) (L := [(⟨((Wh.timers wh.slots).getD i default).id, ((Wh.timers wh.slots).getD i default).due⟩ : DTimer)]) (vs := [.agg #[Vi (((Wh.timers wh.slots).getD i default).id), Vi (((Wh.timers wh.slots).getD i default).due)]]) rfl rfl rfl rfl Try.underlying57 sz52 (by decide) ze52 rfl (by decide) rfl (fun S75 a76 => ?_)
      refine o_append (i := 2) (L := go1) (M := [(⟨((Wh.timers wh.slots).getD i default).id, ((Wh.timers wh.slots).getD i default).due⟩ : DTimer)]) (T := tTimer) rfl rfl rfl (rd_own (i := 0) rfl) Try.underlying57 Try.underlying57 (by intro k h; cases h) el52 (by intro z; simp [tTimer, one1]) (by decide) (by first | omega | (simp only [List.length_cons, List.length_nil]; omega) | (simp only [List.length_append, List.length_cons, List.length_nil, List.length_take, List.length_drop]; omega)) rfl (fun a78 c79 S80 => ?_)
      refine o_as rfl rfl ?_
      refine o_nil ?_
      refine q_block_normal (q_then ?_)
      refine c_region ?_
      refine o_mv rfl rfl ?_
      refine o_p (p_addb rfl rfl (by omega)) ?_
      refine o_as rfl rfl ?_
      refine o_nil ?_
      refine q_round hK56 ((go1 ++ [(⟨((Wh.timers wh.slots).getD i default).id, ((Wh.timers wh.slots).getD i default).due⟩ : DTimer)]), a78, c79, S80, left, aleft, cleft, Sleft, i + 1) ?_ ?_ ?_ ?_
      ·clear hK56
       refine ⟨by omega, ?_, ?_⟩
       ·first | exact Wh.fl_yes hI.2.1 (by omega) (decide_eq_true hid) | exact Wh.fl_no hI.2.1 (by omega) (decide_eq_false (fun h9 => h9 hid))
       ·first | exact Wh.fl_yes hI.2.2 (by omega) (by simpa using hdu) | exact Wh.fl_no hI.2.2 (by omega) (Wh.du_no hdu)
      ·(try dsimp only); omega
      ·exact sr (sr (sr (sr (sr (sr (sr (sr (sr (sr (sr (sr (sr (sr (sr (sr (sr (sr (sr (sr (sr (sr (sr (sr (sr (sr (sr (sr (sr (sr (Sub.nil _))))))))))))))))))))))))))))))
      ·exact pk [1, 2, 3, 4, 5, 6, 7, 8, 9, 10, 11, 12, 13, 14, 15, 16, 17, 18, 19, 20, 21, 22, 23]
     ·simp only [Bool.and_eq_false_iff, decide_eq_false_iff_not, Int.not_le] at hc74
      have hdu := hc74
      refine c_skip ?_
      refine q_block_normal (q_then ?_)
      refine c_region ?_
      refine o_mv rfl rfl ?_
      refine o_p (p_addb rfl rfl (by omega)) ?_
      refine o_as rfl rfl ?_
      refine o_nil ?_
      refine q_round hK56 (go1, ago1, cgo1, Sgo1, left, aleft, cleft, Sleft, i + 1) ?_ ?_ ?_ ?_
      ·clear hK56
       refine ⟨by omega, ?_, ?_⟩
       ·first | exact Wh.fl_yes hI.2.1 (by omega) (decide_eq_true hid) | exact Wh.fl_no hI.2.1 (by omega) (decide_eq_false (fun h9 => h9 hid))
       ·first | exact Wh.fl_yes hI.2.2 (by omega) (by simpa using hdu) | exact Wh.fl_no hI.2.2 (by omega) (Wh.du_no hdu)
      ·(try dsimp only); omega
      ·exact sr (sr (sr (sr (sr (sr (sr (sr (sr (sr (sr (sr (sr (sr (sr (sr (sr (sr (sr (sr (sr (sr (sr (sr (sr (sr (sr (sr (sr (sr (Sub.nil _))))))))))))))))))))))))))))))
      ·exact pk [0, 1, 2, 3, 4, 5, 6, 7, 8, 9, 10, 11, 12, 13, 14, 15, 16, 17, 18, 19, 20, 21, 22]
   ·simp only [decide_eq_false_iff_not, Int.not_lt] at hc57
    have hlf := Wh.fl_all hI.2.1 (by omega)
    have hgg := Wh.fl_all hI.2.2 (by omega)
    have hdl := Wh.dw_flt hok hlf
    have hle9 := Wh.fl_len hI.2.1
    have hge9 := Wh.fl_len hI.2.2
    refine c_exit ?_
    refine q_then_exit (q_then_exit (q_block_exit (q_then ?_)))
    refine c_seq (c_region ?_)
    refine o_mv rfl rfl ?_
    refine o_callM rfl (timersSorted_ok go1 ago1 cgo1 (by first | assumption | omega)) hf37 (fun w hw => (rd_own (i := 1) rfl) w hw) rfl (fun _ _ _ _ ha hA => SlO.agree ha hA) ?_
    rintro ⟨a83, c84⟩ S81
    refine o_know (fun w hw => own_len (i := 0) (T := tTimer) hw rfl) (fun hlr85 => ?_)
    refine o_as rfl rfl ?_
    refine o_nil (q_then (c_seq (c_seq (c_region ?_))))
    refine o_p (p_load_agg (i := 21) (vs := [Vi t.id, Vi t.due]) rfl rfl sh52 rfl rfl) ?_
    refine o_p (p_fieldAddr (j' := 0) rfl fo50_0 rfl) ?_
    refine o_p (p_load (i := 22) (v := Vi wh.now) rfl rfl sh3 rfl) ?_
    refine o_call0 (v := .bool (Wh.right t wh.now)) rfl (timerRight_ok t wh.now) hf38 (fun _ _ => trivial) rfl ?_
    refine o_p (p_not (b := (Wh.right t wh.now)) rfl) ?_
    refine o_nil (q_then ?_)
    refine c_join (G := Int × DWheel × Option Addr × NC × (Nat → Prop))
     (fun ⟨v, ad, aad_0, cad_0, Sad_0⟩ => [(3, Vi to), (4, .pointer (some ⟨B1, 0, none⟩)), (9, .pointer (some ⟨B8, 0, none⟩)), (10, Vi (Wh.newErr to)), (11, .pointer (some ⟨B14, 0, none⟩)), (12, Vi (Wh.addErr wh t)), (13, .pointer (some ⟨B20, 0, none⟩)), (14, Vi (Wh.cancelErr wh id)), (15, .pointer (some ⟨B29, 0, none⟩)), (16, .slice a25 (Wh.gone wh to).length c26), (17, Vi (Wh.advErr wh to)), (18, Vi (Wh.next wh)), (19, Vi (Wh.nextErr wh)), (20, Vi (Wh.check wh)), (21, Vi empty), (22, .pointer (some ⟨B30, 0, none⟩)), (23, .pointer (some ⟨B31, 0, none⟩)), (24, .pointer (some ⟨B32, 0, none⟩)), (25, .pointer (some ⟨B33, 0, none⟩)), (26, Vi v), (27, Vi (Wh.check wh)), (28, Vi (Wh.check wh)), (29, Vi (Wh.check wh)), (30, .slice a83 (Wh.isort go1).length c84), (31, Vi 0), (32, .slice a51 (Wh.timers wh.slots).length c52), (33, .slice aleft left.length cleft)])
     (fun ⟨v, ad, aad_0, cad_0, Sad_0⟩ => [own tTimer S81 a83 c84 (Wh.isort go1), own tTimer Sleft aleft cleft left, own tTimer Sgo1 ago1 cgo1 go1, own tTimer S49 a51 c52 (Wh.timers wh.slots), ownN tTimer (fun _ => False) none nc0 ([]), ownN tTimer (fun _ => False) none nc0 ([]), ownN tTimer Sad_0 aad_0 cad_0 ad.slots, own tTimer (fun _ => False) none 0 ([]), ownN tTimer Sno_0 ano_0 cno_0 no.slots, box B33 [Vi 0, .slice none 0 0] 50, box B32 [Vi 0, .slice none 0 0] 50, box B31 [Vi ad.now, .slice aad_0 ad.slots.length cad_0.n] 50, box B30 [Vi no.now, .slice ano_0 no.slots.length cno_0.n] 50, box B29 [Vi ((Wh.adv wh to).now), .slice a23 ((Wh.adv wh to).slots).length c24.n] 50, ⟨S21, fun w => SlRN tTimer S21 w a23 c24 ((Wh.adv wh to).slots) ∧ SlR tTimer S21 w a25 c26 (Wh.gone wh to)⟩, box B20 [Vi ((Wh.cancel wh id).now), .slice a17 ((Wh.cancel wh id).slots).length c18.n] 50, ownN tTimer S15 a17 c18 ((Wh.cancel wh id).slots), box B14 [Vi ((Wh.add wh t).now), .slice a11 ((Wh.add wh t).slots).length c12.n] 50, ownN tTimer S9 a11 c12 ((Wh.add wh t).slots), box B8 [Vi ((Wh.new to).now), .slice a5 ((Wh.new to).slots).length c6.n] 50, ownN tTimer S3 a5 c6 ((Wh.new to).slots), box B2 [Vi t.id, Vi t.due] 52, box B1 [Vi wh.now, .slice awh_0 wh.slots.length cwh_0.n] 50, base w0])
     (fun ⟨v, ad, aad_0, cad_0, Sad_0⟩ => v = Wh.addErr wh t ∧ ad = Wh.add wh t)
     (fun K hK86 => ?_) ?_
    ·refine c_cond rfl (fun hc87 => ?_) (fun hc87 => ?_)
     ·simp only [Bool.not_eq_true'] at hc87
      have hrt : Wh.right t wh.now = false := by simpa using hc87
      refine c_region ?_
      refine o_as rfl rfl ?_
      refine o_nil ?_
      refine q_join hK86 (3, (⟨0, []⟩ : DWheel), none, nc0, (fun _ => False)) ?_ (sr (sr (sr (sr (sr (sr (sr (sr (sr (sr (sr (sr (sr (sr (sr (sr (sr (sr (sr (sr (sr (sr (sr (sr (sr (sr (sr (Sub.nil _)))))))))))))))))))))))))))) (pk [0, 1, 2, 3, 4, 5, 6, 7, 8, 9, 10, 11, 12, 13, 14, 15, 16, 17, 18, 19, 20, 21, 22, 23])
      clear hK86
      first | exact Wh.sp_add1 hok hrt | exact Wh.sp_add2 hok hrt hhs | exact Wh.sp_add3 hok hrt hhs h60 | exact Wh.sp_add4 hok hrt hhs h60
     ·simp only [Bool.not_eq_false'] at hc87
      have hrt : Wh.right t wh.now = true := by simpa using hc87
      have hdd := Wh.dw_add hok hrt
      refine c_seq (c_region ?_)
      refine o_mv rfl rfl ?_
      refine o_p (p_fieldAddr (j' := 0) rfl fo52_0 rfl) ?_
      refine o_p (p_load (i := 21) (v := Vi t.id) rfl rfl sh3 rfl) ?_
      refine o_call0 (v := .bool (Wh.has (Wh.timers wh.slots) t.id)) rfl (hasTimer_ok (Wh.timers wh.slots) a51 c52 t.id) hf39 (fun w hw => (rd_own (i := 3) rfl) w hw) rfl ?_
      refine o_nil (q_then ?_)
      refine c_cond rfl (fun hc88 => ?_) (fun hc88 => ?_)
      ·skip
       have hhs := hc88
       refine c_region ?_
       refine o_as rfl rfl ?_
       refine o_nil ?_
       refine q_join hK86 (6, (⟨0, []⟩ : DWheel), none, nc0, (fun _ => False)) ?_ (sr (sr (sr (sr (sr (sr (sr (sr (sr (sr (sr (sr (sr (sr (sr (sr (sr (sr (sr (sr (sr (sr (sr (sr (sr (sr (sr (Sub.nil _)))))))))))))))))))))))))))) (pk [0, 1, 2, 3, 4, 5, 6, 7, 8, 9, 10, 11, 12, 13, 14, 15, 16, 17, 18, 19, 20, 21, 22, 23])
       clear hK86
       first | exact Wh.sp_add1 hok hrt | exact Wh.sp_add2 hok hrt hhs | exact Wh.sp_add3 hok hrt hhs h60 | exact Wh.sp_add4 hok hrt hhs h60
      ·skip
       have hhs : Wh.has (Wh.timers wh.slots) t.id = false := by simpa using hc88
       refine c_seq (c_region ?_)
       refine o_mv rfl rfl ?_
       refine o_p (p_len_slice rfl rfl Try.underlying57) ?_
       refine o_p (p_eq rfl rfl) ?_
       refine o_nil (q_then ?_)
       refine c_cond rfl (fun hc89 => ?_) (fun hc89 => ?_)
       ·simp only [beq_iff_eq] at hc89
        have h60 := hc89
        refine c_region ?_
        refine o_as rfl rfl ?_
        refine o_nil ?_
        refine q_join hK86 (8, (⟨0, []⟩ : DWheel), none, nc0, (fun _ => False)) ?_ (sr (sr (sr (sr (sr (sr (sr (sr (sr (sr (sr (sr (sr (sr (sr (sr (sr (sr (sr (sr (sr (sr (sr (sr (sr (sr (sr (Sub.nil _)))))))))))))))))))))))))))) (pk [0, 1, 2, 3, 4, 5, 6, 7, 8, 9, 10, 11, 12, 13, 14, 15, 16, 17, 18, 19, 20, 21, 22, 23])
        clear hK86
        first | exact Wh.sp_add1 hok hrt | exact Wh.sp_add2 hok hrt hhs | exact Wh.sp_add3 hok hrt hhs h60 | exact Wh.sp_add4 hok hrt hhs h60
       ·simp only [beq_eq_false_iff_ne, ne_eq] at hc89
        have h60 := hc89
        refine c_cut (G := (Nat → Prop) × Option Addr × Option Addr × Nat × (Nat → Prop) × (Nat → Prop) × Option Addr × NC) (fun ⟨S90_6, a90_6, a90_7, c90_7, S90_7, S90_8, a90_8, c90_8⟩ => [(3, Vi to), (4, .pointer (some ⟨B1, 0, none⟩)), (9, .pointer (some ⟨B8, 0, none⟩)), (10, Vi (Wh.newErr to)), (11, .pointer (some ⟨B14, 0, none⟩)), (12, Vi (Wh.addErr wh t)), (13, .pointer (some ⟨B20, 0, none⟩)), (14, Vi (Wh.cancelErr wh id)), (15, .pointer (some ⟨B29, 0, none⟩)), (16, .slice a25 (Wh.gone wh to).length c26), (17, Vi (Wh.advErr wh to)), (18, Vi (Wh.next wh)), (19, Vi (Wh.nextErr wh)), (20, Vi (Wh.check wh)), (21, Vi empty), (22, .pointer (some ⟨B30, 0, none⟩)), (23, .pointer (some ⟨B31, 0, none⟩)), (24, .pointer (some ⟨B32, 0, none⟩)), (25, .pointer (some ⟨B33, 0, none⟩)), (26, Vi (Wh.check wh)), (27, Vi (Wh.check wh)), (28, Vi (Wh.check wh)), (29, Vi (Wh.check wh)), (30, .slice a83 (Wh.isort go1).length c84), (31, Vi 0), (32, .slice a51 (Wh.timers wh.slots).length c52), (33, .slice aleft left.length cleft)]) (fun ⟨S90_6, a90_6, a90_7, c90_7, S90_7, S90_8, a90_8, c90_8⟩ => [ownN tTimer S90_8 a90_8 c90_8 ((Wh.of wh.now (([] ++ (Wh.timers wh.slots)) ++ [(⟨t.id, t.due⟩ : DTimer)])).slots), own tTimer S90_6 a90_6 ([(⟨t.id, t.due⟩ : DTimer)].length) ([(⟨t.id, t.due⟩ : DTimer)]), own tTimer S90_7 a90_7 c90_7 (([] ++ (Wh.timers wh.slots)) ++ [(⟨t.id, t.due⟩ : DTimer)]), own tTimer S81 a83 c84 (Wh.isort go1), own tTimer Sleft aleft cleft left, own tTimer Sgo1 ago1 cgo1 go1, own tTimer S49 a51 c52 (Wh.timers wh.slots), ownN tTimer (fun _ => False) none nc0 ([]), ownN tTimer (fun _ => False) none nc0 ([]), ownN tTimer (fun _ => False) none nc0 ([]), own tTimer (fun _ => False) none 0 ([]), ownN tTimer Sno_0 ano_0 cno_0 no.slots, box B33 [Vi 0, .slice none 0 0] 50, box B32 [Vi 0, .slice none 0 0] 50, box B31 [Vi ((Wh.of wh.now (([] ++ (Wh.timers wh.slots)) ++ [(⟨t.id, t.due⟩ : DTimer)])).now), .slice a90_8 ((Wh.of wh.now (([] ++ (Wh.timers wh.slots)) ++ [(⟨t.id, t.due⟩ : DTimer)])).slots).length c90_8.n] 50, box B30 [Vi no.now, .slice ano_0 no.slots.length cno_0.n] 50, box B29 [Vi ((Wh.adv wh to).now), .slice a23 ((Wh.adv wh to).slots).length c24.n] 50, ⟨S21, fun w => SlRN tTimer S21 w a23 c24 ((Wh.adv wh to).slots) ∧ SlR tTimer S21 w a25 c26 (Wh.gone wh to)⟩, box B20 [Vi ((Wh.cancel wh id).now), .slice a17 ((Wh.cancel wh id).slots).length c18.n] 50, ownN tTimer S15 a17 c18 ((Wh.cancel wh id).slots), box B14 [Vi ((Wh.add wh t).now), .slice a11 ((Wh.add wh t).slots).length c12.n] 50, ownN tTimer S9 a11 c12 ((Wh.add wh t).slots), box B8 [Vi ((Wh.new to).now), .slice a5 ((Wh.new to).slots).length c6.n] 50, ownN tTimer S3 a5 c6 ((Wh.new to).slots), box B2 [Vi t.id, Vi t.due] 52, box B1 [Vi wh.now, .slice awh_0 wh.slots.length cwh_0.n] 50, base w0]) (fun K hK91 => ?_) ?_
        ·refine c_held hmix [own tTimer S81 a83 c84 (Wh.isort go1), own tTimer Sleft aleft cleft left, own tTimer Sgo1 ago1 cgo1 go1, own tTimer S49 a51 c52 (Wh.timers wh.slots), ownN tTimer (fun _ => False) none nc0 ([]), ownN tTimer (fun _ => False) none nc0 ([]), ownN tTimer (fun _ => False) none nc0 ([]), own tTimer (fun _ => False) none 0 ([]), ownN tTimer Sno_0 ano_0 cno_0 no.slots, box B33 [Vi 0, .slice none 0 0] 50, box B32 [Vi 0, .slice none 0 0] 50, box B30 [Vi no.now, .slice ano_0 no.slots.length cno_0.n] 50, box B29 [Vi ((Wh.adv wh to).now), .slice a23 ((Wh.adv wh to).slots).length c24.n] 50, ⟨S21, fun w => SlRN tTimer S21 w a23 c24 ((Wh.adv wh to).slots) ∧ SlR tTimer S21 w a25 c26 (Wh.gone wh to)⟩, box B20 [Vi ((Wh.cancel wh id).now), .slice a17 ((Wh.cancel wh id).slots).length c18.n] 50, ownN tTimer S15 a17 c18 ((Wh.cancel wh id).slots), box B14 [Vi ((Wh.add wh t).now), .slice a11 ((Wh.add wh t).slots).length c12.n] 50, ownN tTimer S9 a11 c12 ((Wh.add wh t).slots), box B8 [Vi ((Wh.new to).now), .slice a5 ((Wh.new to).slots).length c6.n] 50, ownN tTimer S3 a5 c6 ((Wh.new to).slots), box B2 [Vi t.id, Vi t.due] 52, box B1 [Vi wh.now, .slice awh_0 wh.slots.length cwh_0.n] 50, base w0] rfl rfl ?_
         refine h_tk (i := 0) (ls := #[T1,F0,F0,F0,F0,F0,F0,F0,F0,F0]) rfl (p_fieldAddr (j' := 0) rfl fo50_0 rfl) (dp (lj (lj (lj (lj (lj (lj (lj (lj (lj (lj (lj (lz (lj (lj (lj (lj (lj (lj (lj (lj (lj (lj (lj (lj (ln)))))))))))))))))))))))))) ?_
         refine h_tk (i := 1) (ls := #[T1,T1,F0,F0,F0,F0,F0,F0,F0,F0]) rfl (p_load (i := 21) (v := Vi wh.now) rfl rfl sh3 rfl) (dp (lj (lj (lj (lj (lj (lj (lj (lj (lj (lj (lj (lz (lj (lj (lj (lj (lj (lj (lj (lj (lj (lj (lj (lj (ln)))))))))))))))))))))))))) ?_
         refine h_tk (i := 3) (ls := #[T1,T1,F0,T1,F0,F0,F0,F0,F0,F0]) rfl (p_move rfl) (dp (lj (lj (lj (lj (lj (lj (lj (lj (lj (lj (lj (lz (lj (lj (lj (lj (lj (lj (lj (lj (lj (lj (lj (lj (ln)))))))))))))))))))))))))) ?_
         refine h_tk (i := 5) (ls := #[T1,T1,F0,T1,F0,T1,F0,F0,F0,F0]) rfl (p_load_agg (i := 20) (vs := [Vi t.id, Vi t.due]) rfl rfl sh52 rfl rfl) (dp (lj (lj (lj (lj (lj (lj (lj (lj (lj (lj (lj (lz (lj (lj (lj (lj (lj (lj (lj (lj (lj (lj (lj (lj (ln)))))))))))))))))))))))))) ?_
         refine h_two (i := 2) (j := 6) (ls := #[T1,T1,T1,T1,F0,T1,F0,F0,F0,F0]) (ls' := #[T1,T1,F0,T1,F0,T1,T1,F0,F0,F0]) (by kernel_rfl) rfl rfl rfl rfl ?_ ?_
         ·refine o_buildSlice (m := 0) (T := tTimer) (L := []) (vs := []) rfl rfl rfl rfl Try.underlying57 sz52 (by decide) ze52 rfl (by decide) rfl (fun S90_2 a90_2 => ?_)
          refine o_nil ?_
          refine h_next (dp (lz (lj (lj (lj (lj (lj (lj (lj (lj (lj (lj (lj (lz (lj (lj (lj (lj (lj (lj (lj (lj (lj (lj (lj (lj (ln))))))))))))))))))))))))))) ?_
          refine h_two (i := 4) (j := 6) (ls := #[T1,T1,T1,T1,T1,T1,F0,F0,F0,F0]) (ls' := #[T1,T1,T1,T1,F0,T1,T1,F0,F0,F0]) (by kernel_rfl) rfl rfl rfl rfl ?_ ?_
          ·refine o_append (i := 0) (L := []) (M := (Wh.timers wh.slots)) (T := tTimer) rfl rfl rfl (rd_own (i := 4) rfl) Try.underlying57 Try.underlying57 (by intro k h; cases h) el52 (by intro z; simp [tTimer, one1]) (by decide) (by first | omega | (simp only [List.length_cons, List.length_nil]; omega) | (simp only [List.length_append, List.length_cons, List.length_nil, List.length_take, List.length_drop]; omega)) rfl (fun a90_4 c90_4 S90_4 => ?_)
           refine o_nil ?_
           refine h_next (dp (lz (lj (lj (lj (lj (lj (lj (lj (lj (lj (lj (lj (lz (lj (lj (lj (lj (lj (lj (lj (lj (lj (lj (lj (lj (ln))))))))))))))))))))))))))) ?_
           refine h_one (i := 6) (ls := #[T1,T1,T1,T1,T1,T1,T1,F0,F0,F0]) (by kernel_rfl) rfl rfl ?_
           refine o_buildSlice (m := 1) (T := tTimer) (L := [(⟨t.id, t.due⟩ : DTimer)]) (vs := [.agg #[Vi t.id, Vi t.due]]) rfl rfl rfl rfl Try.underlying57 sz52 (by decide) ze52 rfl (by decide) rfl (fun S90_6 a90_6 => ?_)
           refine o_nil ?_
           refine h_next (dp (lz (lz (lj (lj (lj (lj (lj (lj (lj (lj (lj (lj (lj (lz (lj (lj (lj (lj (lj (lj (lj (lj (lj (lj (lj (lj (ln)))))))))))))))))))))))))))) ?_
           refine h_one (i := 7) (ls := #[T1,T1,T1,T1,T1,T1,T1,T1,F0,F0]) (by kernel_rfl) rfl rfl ?_
           refine o_append (i := 1) (L := ([] ++ (Wh.timers wh.slots))) (M := [(⟨t.id, t.due⟩ : DTimer)]) (T := tTimer) rfl rfl rfl (rd_own (i := 0) rfl) Try.underlying57 Try.underlying57 (by intro k h; cases h) el52 (by intro z; simp [tTimer, one1]) (by decide) (by first | omega | (simp only [List.length_cons, List.length_nil]; omega) | (simp only [List.length_append, List.length_cons, List.length_nil, List.length_take, List.length_drop]; omega)) rfl (fun a90_7 c90_7 S90_7 => ?_)
           refine o_nil ?_
           refine h_next (dp (lz (lz (lj (lj (lj (lj (lj (lj (lj (lj (lj (lj (lj (lz (lj (lj (lj (lj (lj (lj (lj (lj (lj (lj (lj (lj (ln)))))))))))))))))))))))))))) ?_
           refine h_one (i := 8) (ls := #[T1,T1,T1,T1,T1,T1,T1,T1,T1,F0]) (by kernel_rfl) rfl rfl ?_
           refine o_callM rfl (wheelOf_ok wh.now (([] ++ (Wh.timers wh.slots)) ++ [(⟨t.id, t.due⟩ : DTimer)]) a90_7 c90_7 (by first | assumption | exact Wh.ofh hto Wh.dw_nil | exact Wh.ofh hnw hdd | exact Wh.ofh hnw hdl | exact Wh.ofh hto hda)) hf35 (fun w hw => (rd_own (i := 1) rfl) w hw) rfl (fun _ _ _ _ ha hA => SlON.agree ha hA) ?_
           rintro ⟨a90_8, c90_8⟩ S90_8
           refine o_know (fun w hw => own_lenN (i := 0) (T := tTimer) hw rfl) (fun hlr90_8 => ?_)
           refine o_nil ?_
           refine h_next (dp (lz (lz (lz (lj (lj (lj (lj (lj (lj (lj (lj (lj (lj (lj (lz (lj (lj (lj (lj (lj (lj (lj (lj (lj (lj (lj (lj (ln))))))))))))))))))))))))))))) ?_
           refine h_one (i := 9) (ls := #[T1,T1,T1,T1,T1,T1,T1,T1,T1,T1]) (by kernel_rfl) rfl rfl ?_
           refine o_storeN (i := 14) (vs := [Vi ((Wh.of wh.now (([] ++ (Wh.timers wh.slots)) ++ [(⟨t.id, t.due⟩ : DTimer)])).now), .slice a90_8 ((Wh.of wh.now (([] ++ (Wh.timers wh.slots)) ++ [(⟨t.id, t.due⟩ : DTimer)])).slots).length c90_8.n]) (cs' := [Vi ((Wh.of wh.now (([] ++ (Wh.timers wh.slots)) ++ [(⟨t.id, t.due⟩ : DTimer)])).now), .slice a90_8 ((Wh.of wh.now (([] ++ (Wh.timers wh.slots)) ++ [(⟨t.id, t.due⟩ : DTimer)])).slots).length c90_8.n]) rfl rfl rfl sz50 rfl rfl rfl rfl ?_
           refine o_nil ?_
           refine h_next (dp (lz (lz (lz (lj (lj (lj (lj (lj (lj (lj (lj (lj (lj (lj (lz (lj (lj (lj (lj (lj (lj (lj (lj (lj (lj (lj (lj (ln))))))))))))))))))))))))))))) ?_
           refine h_done (by kernel_rfl) ?_
           refine q_kont hK91 (S90_6, a90_6, a90_7, c90_7, S90_7, S90_8, a90_8, c90_8) (sr (sr (sr (sr (sr (sr (sr (sr (sr (sr (sr (sr (sr (sr (sr (sr (sr (sr (sr (sr (sr (sr (sr (sr (sr (sr (sr (Sub.nil _)))))))))))))))))))))))))))) (pk [0, 1, 2, 3, 4, 5, 6, 7, 8, 9, 10, 11, 12, 13, 14, 15, 16, 17, 18, 19, 20, 21, 22, 23, 24, 25, 26])
          ·refine o_buildSlice (m := 1) (T := tTimer) (L := [(⟨t.id, t.due⟩ : DTimer)]) (vs := [.agg #[Vi t.id, Vi t.due]]) rfl rfl rfl rfl Try.underlying57 sz52 (by decide) ze52 rfl (by decide) rfl (fun S90_6 a90_6 => ?_)
           refine o_nil ?_
           refine h_next (dp (lz (lz (lj (lj (lj (lj (lj (lj (lj (lj (lj (lj (lj (lz (lj (lj (lj (lj (lj (lj (lj (lj (lj (lj (lj (lj (ln)))))))))))))))))))))))))))) ?_
           refine h_one (i := 4) (ls := #[T1,T1,T1,T1,T1,T1,T1,F0,F0,F0]) (by kernel_rfl) rfl rfl ?_
           refine o_append (i := 1) (L := []) (M := (Wh.timers wh.slots)) (T := tTimer) rfl rfl rfl (rd_own (i := 5) rfl) Try.underlying57 Try.underlying57 (by intro k h; cases h) el52 (by intro z; simp [tTimer, one1]) (by decide) (by first | omega | (simp only [List.length_cons, List.length_nil]; omega) | (simp only [List.length_append, List.length_cons, List.length_nil, List.length_take, List.length_drop]; omega)) rfl (fun a90_4 c90_4 S90_4 => ?_)
           refine o_nil ?_
           refine h_next (dp (lz (lz (lj (lj (lj (lj (lj (lj (lj (lj (lj (lj (lj (lz (lj (lj (lj (lj (lj (lj (lj (lj (lj (lj (lj (lj (ln)))))))))))))))))))))))))))) ?_
           refine h_one (i := 7) (ls := #[T1,T1,T1,T1,T1,T1,T1,T1,F0,F0]) (by kernel_rfl) rfl rfl ?_
           refine o_append (i := 1) (L := ([] ++ (Wh.timers wh.slots))) (M := [(⟨t.id, t.due⟩ : DTimer)]) (T := tTimer) rfl rfl rfl (rd_own (i := 0) rfl) Try.underlying57 Try.underlying57 (by intro k h; cases h) el52 (by intro z; simp [tTimer, one1]) (by decide) (by first | omega | (simp only [List.length_cons, List.length_nil]; omega) | (simp only [List.length_append, List.length_cons, List.length_nil, List.length_take, List.length_drop]; omega)) rfl (fun a90_7 c90_7 S90_7 => ?_)
           refine o_nil ?_
           refine h_next (dp (lz (lz (lj (lj (lj (lj (lj (lj (lj (lj (lj (lj (lj (lz (lj (lj (lj (lj (lj (lj (lj (lj (lj (lj (lj (lj (ln)))))))))))))))))))))))))))) ?_
           refine h_one (i := 8) (ls := #[T1,T1,T1,T1,T1,T1,T1,T1,T1,F0]) (by kernel_rfl) rfl rfl ?_
           refine o_callM rfl (wheelOf_ok wh.now (([] ++ (Wh.timers wh.slots)) ++ [(⟨t.id, t.due⟩ : DTimer)]) a90_7 c90_7 (by first | assumption | exact Wh.ofh hto Wh.dw_nil | exact Wh.ofh hnw hdd | exact Wh.ofh hnw hdl | exact Wh.ofh hto hda)) hf35 (fun w hw => (rd_own (i := 1) rfl) w hw) rfl (fun _ _ _ _ ha hA => SlON.agree ha hA) ?_
           rintro ⟨a90_8, c90_8⟩ S90_8
           refine o_know (fun w hw => own_lenN (i := 0) (T := tTimer) hw rfl) (fun hlr90_8 => ?_)
           refine o_nil ?_
           refine h_next (dp (lz (lz (lz (lj (lj (lj (lj (lj (lj (lj (lj (lj (lj (lj (lz (lj (lj (lj (lj (lj (lj (lj (lj (lj (lj (lj (lj (ln))))))))))))))))))))))))))))) ?_
           refine h_one (i := 9) (ls := #[T1,T1,T1,T1,T1,T1,T1,T1,T1,T1]) (by kernel_rfl) rfl rfl ?_
           refine o_storeN (i := 14) (vs := [Vi ((Wh.of wh.now (([] ++ (Wh.timers wh.slots)) ++ [(⟨t.id, t.due⟩ : DTimer)])).now), .slice a90_8 ((Wh.of wh.now (([] ++ (Wh.timers wh.slots)) ++ [(⟨t.id, t.due⟩ : DTimer)])).slots).length c90_8.n]) (cs' := [Vi ((Wh.of wh.now (([] ++ (Wh.timers wh.slots)) ++ [(⟨t.id, t.due⟩ : DTimer)])).now), .slice a90_8 ((Wh.of wh.now (([] ++ (Wh.timers wh.slots)) ++ [(⟨t.id, t.due⟩ : DTimer)])).slots).length c90_8.n]) rfl rfl rfl sz50 rfl rfl rfl rfl ?_
           refine o_nil ?_
           refine h_next (dp (lz (lz (lz (lj (lj (lj (lj (lj (lj (lj (lj (lj (lj (lj (lz (lj (lj (lj (lj (lj (lj (lj (lj (lj (lj (lj (lj (ln))))))))))))))))))))))))))))) ?_
           refine h_done (by kernel_rfl) ?_
           refine q_kont hK91 (S90_6, a90_6, a90_7, c90_7, S90_7, S90_8, a90_8, c90_8) (sr (sr (sr (sr (sr (sr (sr (sr (sr (sr (sr (sr (sr (sr (sr (sr (sr (sr (sr (sr (sr (sr (sr (sr (sr (sr (sr (Sub.nil _)))))))))))))))))))))))))))) (pk [0, 1, 2, 3, 4, 5, 6, 7, 8, 9, 10, 11, 12, 13, 14, 15, 16, 17, 18, 19, 20, 21, 22, 23, 24, 25, 26])
         ·refine o_buildSlice (m := 1) (T := tTimer) (L := [(⟨t.id, t.due⟩ : DTimer)]) (vs := [.agg #[Vi t.id, Vi t.due]]) rfl rfl rfl rfl Try.underlying57 sz52 (by decide) ze52 rfl (by decide) rfl (fun S90_6 a90_6 => ?_)
          refine o_nil ?_
          refine h_next (dp (lz (lj (lj (lj (lj (lj (lj (lj (lj (lj (lj (lj (lz (lj (lj (lj (lj (lj (lj (lj (lj (lj (lj (lj (lj (ln))))))))))))))))))))))))))) ?_
          refine h_one (i := 2) (ls := #[T1,T1,T1,T1,F0,T1,T1,F0,F0,F0]) (by kernel_rfl) rfl rfl ?_
          refine o_buildSlice (m := 0) (T := tTimer) (L := []) (vs := []) rfl rfl rfl rfl Try.underlying57 sz52 (by decide) ze52 rfl (by decide) rfl (fun S90_2 a90_2 => ?_)
          refine o_nil ?_
          refine h_next (dp (lz (lz (lj (lj (lj (lj (lj (lj (lj (lj (lj (lj (lj (lz (lj (lj (lj (lj (lj (lj (lj (lj (lj (lj (lj (lj (ln)))))))))))))))))))))))))))) ?_
          refine h_one (i := 4) (ls := #[T1,T1,T1,T1,T1,T1,T1,F0,F0,F0]) (by kernel_rfl) rfl rfl ?_
          refine o_append (i := 0) (L := []) (M := (Wh.timers wh.slots)) (T := tTimer) rfl rfl rfl (rd_own (i := 5) rfl) Try.underlying57 Try.underlying57 (by intro k h; cases h) el52 (by intro z; simp [tTimer, one1]) (by decide) (by first | omega | (simp only [List.length_cons, List.length_nil]; omega) | (simp only [List.length_append, List.length_cons, List.length_nil, List.length_take, List.length_drop]; omega)) rfl (fun a90_4 c90_4 S90_4 => ?_)
          refine o_nil ?_
          refine h_next (dp (lz (lz (lj (lj (lj (lj (lj (lj (lj (lj (lj (lj (lj (lz (lj (lj (lj (lj (lj (lj (lj (lj (lj (lj (lj (lj (ln)))))))))))))))))))))))))))) ?_
          refine h_one (i := 7) (ls := #[T1,T1,T1,T1,T1,T1,T1,T1,F0,F0]) (by kernel_rfl) rfl rfl ?_
          refine o_append (i := 0) (L := ([] ++ (Wh.timers wh.slots))) (M := [(⟨t.id, t.due⟩ : DTimer)]) (T := tTimer) rfl rfl rfl (rd_own (i := 1) rfl) Try.underlying57 Try.underlying57 (by intro k h; cases h) el52 (by intro z; simp [tTimer, one1]) (by decide) (by first | omega | (simp only [List.length_cons, List.length_nil]; omega) | (simp only [List.length_append, List.length_cons, List.length_nil, List.length_take, List.length_drop]; omega)) rfl (fun a90_7 c90_7 S90_7 => ?_)
          refine o_nil ?_
          refine h_next (dp (lz (lz (lj (lj (lj (lj (lj (lj (lj (lj (lj (lj (lj (lz (lj (lj (lj (lj (lj (lj (lj (lj (lj (lj (lj (lj (ln)))))))))))))))))))))))))))) ?_
          refine h_one (i := 8) (ls := #[T1,T1,T1,T1,T1,T1,T1,T1,T1,F0]) (by kernel_rfl) rfl rfl ?_
          refine o_callM rfl (wheelOf_ok wh.now (([] ++ (Wh.timers wh.slots)) ++ [(⟨t.id, t.due⟩ : DTimer)]) a90_7 c90_7 (by first | assumption | exact Wh.ofh hto Wh.dw_nil | exact Wh.ofh hnw hdd | exact Wh.ofh hnw hdl | exact Wh.ofh hto hda)) hf35 (fun w hw => (rd_own (i := 0) rfl) w hw) rfl (fun _ _ _ _ ha hA => SlON.agree ha hA) ?_
          rintro ⟨a90_8, c90_8⟩ S90_8
          refine o_know (fun w hw => own_lenN (i := 0) (T := tTimer) hw rfl) (fun hlr90_8 => ?_)
          refine o_nil ?_
          refine h_next (dp (lz (lz (lz (lj (lj (lj (lj (lj (lj (lj (lj (lj (lj (lj (lz (lj (lj (lj (lj (lj (lj (lj (lj (lj (lj (lj (lj (ln))))))))))))))))))))))))))))) ?_
          refine h_one (i := 9) (ls := #[T1,T1,T1,T1,T1,T1,T1,T1,T1,T1]) (by kernel_rfl) rfl rfl ?_
          refine o_storeN (i := 14) (vs := [Vi ((Wh.of wh.now (([] ++ (Wh.timers wh.slots)) ++ [(⟨t.id, t.due⟩ : DTimer)])).now), .slice a90_8 ((Wh.of wh.now (([] ++ (Wh.timers wh.slots)) ++ [(⟨t.id, t.due⟩ : DTimer)])).slots).length c90_8.n]) (cs' := [Vi ((Wh.of wh.now (([] ++ (Wh.timers wh.slots)) ++ [(⟨t.id, t.due⟩ : DTimer)])).now), .slice a90_8 ((Wh.of wh.now (([] ++ (Wh.timers wh.slots)) ++ [(⟨t.id, t.due⟩ : DTimer)])).slots).length c90_8.n]) rfl rfl rfl sz50 rfl rfl rfl rfl ?_
          refine o_nil ?_
          refine h_next (dp (lz (lz (lz (lj (lj (lj (lj (lj (lj (lj (lj (lj (lj (lj (lz (lj (lj (lj (lj (lj (lj (lj (lj (lj (lj (lj (lj (ln))))))))))))))))))))))))))))) ?_
          refine h_done (by kernel_rfl) ?_
          refine q_kont hK91 (S90_6, a90_6, a90_7, c90_7, S90_7, S90_8, a90_8, c90_8) (sr (sr (sr (sr (sr (sr (sr (sr (sr (sr (sr (sr (sr (sr (sr (sr (sr (sr (sr (sr (sr (sr (sr (sr (sr (sr (sr (Sub.nil _)))))))))))))))))))))))))))) (pk [0, 2, 1, 3, 4, 5, 6, 7, 8, 9, 10, 11, 12, 13, 14, 15, 16, 17, 18, 19, 20, 21, 22, 23, 24, 25, 26])
        rintro ⟨S90_6, a90_6, a90_7, c90_7, S90_7, S90_8, a90_8, c90_8⟩
        show SQ _ 239 w0 _ _ [(3, Vi to), (4, .pointer (some ⟨B1, 0, none⟩)), (9, .pointer (some ⟨B8, 0, none⟩)), (10, Vi (Wh.newErr to)), (11, .pointer (some ⟨B14, 0, none⟩)), (12, Vi (Wh.addErr wh t)), (13, .pointer (some ⟨B20, 0, none⟩)), (14, Vi (Wh.cancelErr wh id)), (15, .pointer (some ⟨B29, 0, none⟩)), (16, .slice a25 (Wh.gone wh to).length c26), (17, Vi (Wh.advErr wh to)), (18, Vi (Wh.next wh)), (19, Vi (Wh.nextErr wh)), (20, Vi (Wh.check wh)), (21, Vi empty), (22, .pointer (some ⟨B30, 0, none⟩)), (23, .pointer (some ⟨B31, 0, none⟩)), (24, .pointer (some ⟨B32, 0, none⟩)), (25, .pointer (some ⟨B33, 0, none⟩)), (26, Vi (Wh.check wh)), (27, Vi (Wh.check wh)), (28, Vi (Wh.check wh)), (29, Vi (Wh.check wh)), (30, .slice a83 (Wh.isort go1).length c84), (31, Vi 0), (32, .slice a51 (Wh.timers wh.slots).length c52), (33, .slice aleft left.length cleft)] [ownN tTimer S90_8 a90_8 c90_8 ((Wh.of wh.now (([] ++ (Wh.timers wh.slots)) ++ [(⟨t.id, t.due⟩ : DTimer)])).slots), own tTimer S90_6 a90_6 ([(⟨t.id, t.due⟩ : DTimer)].length) ([(⟨t.id, t.due⟩ : DTimer)]), own tTimer S90_7 a90_7 c90_7 (([] ++ (Wh.timers wh.slots)) ++ [(⟨t.id, t.due⟩ : DTimer)]), own tTimer S81 a83 c84 (Wh.isort go1), own tTimer Sleft aleft cleft left, own tTimer Sgo1 ago1 cgo1 go1, own tTimer S49 a51 c52 (Wh.timers wh.slots), ownN tTimer (fun _ => False) none nc0 ([]), ownN tTimer (fun _ => False) none nc0 ([]), ownN tTimer (fun _ => False) none nc0 ([]), own tTimer (fun _ => False) none 0 ([]), ownN tTimer Sno_0 ano_0 cno_0 no.slots, box B33 [Vi 0, .slice none 0 0] 50, box B32 [Vi 0, .slice none 0 0] 50, box B31 [Vi ((Wh.of wh.now (([] ++ (Wh.timers wh.slots)) ++ [(⟨t.id, t.due⟩ : DTimer)])).now), .slice a90_8 ((Wh.of wh.now (([] ++ (Wh.timers wh.slots)) ++ [(⟨t.id, t.due⟩ : DTimer)])).slots).length c90_8.n] 50, box B30 [Vi no.now, .slice ano_0 no.slots.length cno_0.n] 50, box B29 [Vi ((Wh.adv wh to).now), .slice a23 ((Wh.adv wh to).slots).length c24.n] 50, ⟨S21, fun w => SlRN tTimer S21 w a23 c24 ((Wh.adv wh to).slots) ∧ SlR tTimer S21 w a25 c26 (Wh.gone wh to)⟩, box B20 [Vi ((Wh.cancel wh id).now), .slice a17 ((Wh.cancel wh id).slots).length c18.n] 50, ownN tTimer S15 a17 c18 ((Wh.cancel wh id).slots), box B14 [Vi ((Wh.add wh t).now), .slice a11 ((Wh.add wh t).slots).length c12.n] 50, ownN tTimer S9 a11 c12 ((Wh.add wh t).slots), box B8 [Vi ((Wh.new to).now), .slice a5 ((Wh.new to).slots).length c6.n] 50, ownN tTimer S3 a5 c6 ((Wh.new to).slots), box B2 [Vi t.id, Vi t.due] 52, box B1 [Vi wh.now, .slice awh_0 wh.slots.length cwh_0.n] 50, base w0]
        refine q_know (fun w hw => own_lenN (i := 0) (T := tTimer) hw rfl) (fun hlr92 => ?_)
        refine q_join hK86 ((Wh.check wh), (Wh.of wh.now (([] ++ (Wh.timers wh.slots)) ++ [(⟨t.id, t.due⟩ : DTimer)])), a90_8, c90_8, S90_8) ?_ (sr (sr (sr (sr (sr (sr (sr (sr (sr (sr (sr (sr (sr (sr (sr (sr (sr (sr (sr (sr (sr (sr (sr (sr (sr (sr (sr (Sub.nil _)))))))))))))))))))))))))))) (pk [3, 4, 5, 6, 7, 8, 0, 10, 11, 12, 13, 14, 15, 16, 17, 18, 19, 20, 21, 22, 23, 24, 25, 26])
        clear hK86
        first | exact Wh.sp_add1 hok hrt | exact Wh.sp_add2 hok hrt hhs | exact Wh.sp_add3 hok hrt hhs h60 | exact Wh.sp_add4 hok hrt hhs h60
    rintro ⟨v, ad, aad_0, cad_0, Sad_0⟩ hj3
    show SQ _ 239 w0 _ _ [(3, Vi to), (4, .pointer (some ⟨B1, 0, none⟩)), (9, .pointer (some ⟨B8, 0, none⟩)), (10, Vi (Wh.newErr to)), (11, .pointer (some ⟨B14, 0, none⟩)), (12, Vi (Wh.addErr wh t)), (13, .pointer (some ⟨B20, 0, none⟩)), (14, Vi (Wh.cancelErr wh id)), (15, .pointer (some ⟨B29, 0, none⟩)), (16, .slice a25 (Wh.gone wh to).length c26), (17, Vi (Wh.advErr wh to)), (18, Vi (Wh.next wh)), (19, Vi (Wh.nextErr wh)), (20, Vi (Wh.check wh)), (21, Vi empty), (22, .pointer (some ⟨B30, 0, none⟩)), (23, .pointer (some ⟨B31, 0, none⟩)), (24, .pointer (some ⟨B32, 0, none⟩)), (25, .pointer (some ⟨B33, 0, none⟩)), (26, Vi v), (27, Vi (Wh.check wh)), (28, Vi (Wh.check wh)), (29, Vi (Wh.check wh)), (30, .slice a83 (Wh.isort go1).length c84), (31, Vi 0), (32, .slice a51 (Wh.timers wh.slots).length c52), (33, .slice aleft left.length cleft)] [own tTimer S81 a83 c84 (Wh.isort go1), own tTimer Sleft aleft cleft left, own tTimer Sgo1 ago1 cgo1 go1, own tTimer S49 a51 c52 (Wh.timers wh.slots), ownN tTimer (fun _ => False) none nc0 ([]), ownN tTimer (fun _ => False) none nc0 ([]), ownN tTimer Sad_0 aad_0 cad_0 ad.slots, own tTimer (fun _ => False) none 0 ([]), ownN tTimer Sno_0 ano_0 cno_0 no.slots, box B33 [Vi 0, .slice none 0 0] 50, box B32 [Vi 0, .slice none 0 0] 50, box B31 [Vi ad.now, .slice aad_0 ad.slots.length cad_0.n] 50, box B30 [Vi no.now, .slice ano_0 no.slots.length cno_0.n] 50, box B29 [Vi ((Wh.adv wh to).now), .slice a23 ((Wh.adv wh to).slots).length c24.n] 50, ⟨S21, fun w => SlRN tTimer S21 w a23 c24 ((Wh.adv wh to).slots) ∧ SlR tTimer S21 w a25 c26 (Wh.gone wh to)⟩, box B20 [Vi ((Wh.cancel wh id).now), .slice a17 ((Wh.cancel wh id).slots).length c18.n] 50, ownN tTimer S15 a17 c18 ((Wh.cancel wh id).slots), box B14 [Vi ((Wh.add wh t).now), .slice a11 ((Wh.add wh t).slots).length c12.n] 50, ownN tTimer S9 a11 c12 ((Wh.add wh t).slots), box B8 [Vi ((Wh.new to).now), .slice a5 ((Wh.new to).slots).length c6.n] 50, ownN tTimer S3 a5 c6 ((Wh.new to).slots), box B2 [Vi t.id, Vi t.due] 52, box B1 [Vi wh.now, .slice awh_0 wh.slots.length cwh_0.n] 50, base w0]
    refine q_then (c_seq (c_seq (c_region ?_)))
    refine o_mv rfl rfl ?_
    refine o_p (p_len_slice rfl rfl Try.underlying57) ?_
    refine o_mv rfl rfl ?_
    refine o_p (p_len_slice rfl rfl Try.underlying57) ?_
    refine o_p (p_eq rfl rfl) ?_
    refine o_nil (q_then ?_)
    refine c_join (G := Int × DWheel × Option Addr × NC × (Nat → Prop))
     (fun ⟨u, sp, asp_0, csp_0, Ssp_0⟩ => [(3, Vi to), (4, .pointer (some ⟨B1, 0, none⟩)), (9, .pointer (some ⟨B8, 0, none⟩)), (10, Vi (Wh.newErr to)), (11, .pointer (some ⟨B14, 0, none⟩)), (12, Vi (Wh.addErr wh t)), (13, .pointer (some ⟨B20, 0, none⟩)), (14, Vi (Wh.cancelErr wh id)), (15, .pointer (some ⟨B29, 0, none⟩)), (16, .slice a25 (Wh.gone wh to).length c26), (17, Vi (Wh.advErr wh to)), (18, Vi (Wh.next wh)), (19, Vi (Wh.nextErr wh)), (20, Vi (Wh.check wh)), (21, Vi empty), (22, .pointer (some ⟨B30, 0, none⟩)), (23, .pointer (some ⟨B31, 0, none⟩)), (24, .pointer (some ⟨B32, 0, none⟩)), (25, .pointer (some ⟨B33, 0, none⟩)), (26, Vi v), (27, Vi u), (28, Vi (Wh.check wh)), (29, Vi (Wh.check wh)), (30, .slice a83 (Wh.isort go1).length c84), (31, Vi 0), (32, .slice a51 (Wh.timers wh.slots).length c52)])
     (fun ⟨u, sp, asp_0, csp_0, Ssp_0⟩ => [own tTimer S81 a83 c84 (Wh.isort go1), own tTimer Sleft aleft cleft left, own tTimer Sgo1 ago1 cgo1 go1, own tTimer S49 a51 c52 (Wh.timers wh.slots), ownN tTimer (fun _ => False) none nc0 ([]), ownN tTimer Ssp_0 asp_0 csp_0 sp.slots, ownN tTimer Sad_0 aad_0 cad_0 ad.slots, own tTimer (fun _ => False) none 0 ([]), ownN tTimer Sno_0 ano_0 cno_0 no.slots, box B33 [Vi 0, .slice none 0 0] 50, box B32 [Vi sp.now, .slice asp_0 sp.slots.length csp_0.n] 50, box B31 [Vi ad.now, .slice aad_0 ad.slots.length cad_0.n] 50, box B30 [Vi no.now, .slice ano_0 no.slots.length cno_0.n] 50, box B29 [Vi ((Wh.adv wh to).now), .slice a23 ((Wh.adv wh to).slots).length c24.n] 50, ⟨S21, fun w => SlRN tTimer S21 w a23 c24 ((Wh.adv wh to).slots) ∧ SlR tTimer S21 w a25 c26 (Wh.gone wh to)⟩, box B20 [Vi ((Wh.cancel wh id).now), .slice a17 ((Wh.cancel wh id).slots).length c18.n] 50, ownN tTimer S15 a17 c18 ((Wh.cancel wh id).slots), box B14 [Vi ((Wh.add wh t).now), .slice a11 ((Wh.add wh t).slots).length c12.n] 50, ownN tTimer S9 a11 c12 ((Wh.add wh t).slots), box B8 [Vi ((Wh.new to).now), .slice a5 ((Wh.new to).slots).length c6.n] 50, ownN tTimer S3 a5 c6 ((Wh.new to).slots), box B2 [Vi t.id, Vi t.due] 52, box B1 [Vi wh.now, .slice awh_0 wh.slots.length cwh_0.n] 50, base w0])
     (fun ⟨u, sp, asp_0, csp_0, Ssp_0⟩ => u = Wh.cancelErr wh id ∧ sp = Wh.cancel wh id)
     (fun K hK93 => ?_) ?_
    ·refine c_cond rfl (fun hc94 => ?_) (fun hc94 => ?_)
     ·simp only [beq_iff_eq] at hc94
      have hll := hc94
      refine c_region ?_
      refine o_as rfl rfl ?_
      refine o_nil ?_
      refine q_join hK93 (5, (⟨0, []⟩ : DWheel), none, nc0, (fun _ => False)) ?_ (sr (sr (sr (sr (sr (sr (sr (sr (sr (sr (sr (sr (sr (sr (sr (sr (sr (sr (sr (sr (sr (sr (sr (sr (sr (sr (Sub.nil _))))))))))))))))))))))))))) (pk [0, 1, 2, 3, 4, 5, 6, 7, 8, 9, 10, 11, 12, 13, 14, 15, 16, 17, 18, 19, 20, 21, 22, 23])
      clear hK93
      first | exact Wh.sp_can1 hok hlf hll | exact Wh.sp_can2 hok hlf hll
     ·simp only [beq_eq_false_iff_ne, ne_eq] at hc94
      have hll := hc94
      refine c_region ?_
      refine o_p (p_fieldAddr (j' := 0) rfl fo50_0 rfl) ?_
      refine o_p (p_load (i := 22) (v := Vi wh.now) rfl rfl sh3 rfl) ?_
      refine o_mv rfl rfl ?_
      refine o_callM rfl (wheelOf_ok wh.now left aleft cleft (by first | assumption | exact Wh.ofh hto Wh.dw_nil | exact Wh.ofh hnw hdd | exact Wh.ofh hnw hdl | exact Wh.ofh hto hda)) hf35 (fun w hw => (rd_own (i := 1) rfl) w hw) rfl (fun _ _ _ _ ha hA => SlON.agree ha hA) ?_
      rintro ⟨a97, c98⟩ S95
      refine o_know (fun w hw => own_lenN (i := 0) (T := tTimer) hw rfl) (fun hlr99 => ?_)
      refine o_storeN (i := 11) (vs := [Vi ((Wh.of wh.now left).now), .slice a97 ((Wh.of wh.now left).slots).length c98.n]) (cs' := [Vi ((Wh.of wh.now left).now), .slice a97 ((Wh.of wh.now left).slots).length c98.n]) rfl rfl rfl sz50 rfl rfl rfl rfl ?_
      refine o_nil ?_
      refine q_join hK93 ((Wh.check wh), (Wh.of wh.now left), a97, c98, S95) ?_ (sr (sr (sr (sr (sr (sr (sr (sr (sr (sr (sr (sr (sr (sr (sr (sr (sr (sr (sr (sr (sr (sr (sr (sr (sr (sr (Sub.nil _))))))))))))))))))))))))))) (pk [1, 2, 3, 4, 5, 0, 7, 8, 9, 10, 11, 12, 13, 14, 15, 16, 17, 18, 19, 20, 21, 22, 23, 24])
      clear hK93
      first | exact Wh.sp_can1 hok hlf hll | exact Wh.sp_can2 hok hlf hll
    rintro ⟨u, sp, asp_0, csp_0, Ssp_0⟩ hj4
    show SQ _ 239 w0 _ _ [(3, Vi to), (4, .pointer (some ⟨B1, 0, none⟩)), (9, .pointer (some ⟨B8, 0, none⟩)), (10, Vi (Wh.newErr to)), (11, .pointer (some ⟨B14, 0, none⟩)), (12, Vi (Wh.addErr wh t)), (13, .pointer (some ⟨B20, 0, none⟩)), (14, Vi (Wh.cancelErr wh id)), (15, .pointer (some ⟨B29, 0, none⟩)), (16, .slice a25 (Wh.gone wh to).length c26), (17, Vi (Wh.advErr wh to)), (18, Vi (Wh.next wh)), (19, Vi (Wh.nextErr wh)), (20, Vi (Wh.check wh)), (21, Vi empty), (22, .pointer (some ⟨B30, 0, none⟩)), (23, .pointer (some ⟨B31, 0, none⟩)), (24, .pointer (some ⟨B32, 0, none⟩)), (25, .pointer (some ⟨B33, 0, none⟩)), (26, Vi v), (27, Vi u), (28, Vi (Wh.check wh)), (29, Vi (Wh.check wh)), (30, .slice a83 (Wh.isort go1).length c84), (31, Vi 0), (32, .slice a51 (Wh.timers wh.slots).length c52)] [own tTimer S81 a83 c84 (Wh.isort go1), own tTimer Sleft aleft cleft left, own tTimer Sgo1 ago1 cgo1 go1, own tTimer S49 a51 c52 (Wh.timers wh.slots), ownN tTimer (fun _ => False) none nc0 ([]), ownN tTimer Ssp_0 asp_0 csp_0 sp.slots, ownN tTimer Sad_0 aad_0 cad_0 ad.slots, own tTimer (fun _ => False) none 0 ([]), ownN tTimer Sno_0 ano_0 cno_0 no.slots, box B33 [Vi 0, .slice none 0 0] 50, box B32 [Vi sp.now, .slice asp_0 sp.slots.length csp_0.n] 50, box B31 [Vi ad.now, .slice aad_0 ad.slots.length cad_0.n] 50, box B30 [Vi no.now, .slice ano_0 no.slots.length cno_0.n] 50, box B29 [Vi ((Wh.adv wh to).now), .slice a23 ((Wh.adv wh to).slots).length c24.n] 50, ⟨S21, fun w => SlRN tTimer S21 w a23 c24 ((Wh.adv wh to).slots) ∧ SlR tTimer S21 w a25 c26 (Wh.gone wh to)⟩, box B20 [Vi ((Wh.cancel wh id).now), .slice a17 ((Wh.cancel wh id).slots).length c18.n] 50, ownN tTimer S15 a17 c18 ((Wh.cancel wh id).slots), box B14 [Vi ((Wh.add wh t).now), .slice a11 ((Wh.add wh t).slots).length c12.n] 50, ownN tTimer S9 a11 c12 ((Wh.add wh t).slots), box B8 [Vi ((Wh.new to).now), .slice a5 ((Wh.new to).slots).length c6.n] 50, ownN tTimer S3 a5 c6 ((Wh.new to).slots), box B2 [Vi t.id, Vi t.due] 52, box B1 [Vi wh.now, .slice awh_0 wh.slots.length cwh_0.n] 50, base w0]
    refine q_then (c_seq (c_seq (c_region ?_)))
    refine o_mv rfl rfl ?_
    refine o_p (p_lt rfl rfl) ?_
    refine o_mv rfl rfl ?_
    refine o_or (p := 159) 3 (decide (262143 < to)) ?_ ?_ ?_
    ·intro hb100 hk
     simp only [decide_eq_false_iff_not, Int.not_lt] at hb100
     refine o_unguard 156 rfl rfl ?_
     refine o_mv rfl rfl ?_
     refine o_unguard 156 rfl rfl ?_
     refine o_p (p_gt rfl rfl) ?_
     refine o_pf rfl rfl rfl ?_
     exact o_sub (sr (Sub.skip rfl (Sub.skip rfl (Sub.skip rfl (Sub.skip rfl (Sub.refl _)))))) hk
    ·intro hb100 hk
     refine o_guard_no rfl 156 rfl rfl rfl rfl rfl ?_
     refine o_guard_no rfl 156 rfl rfl rfl rfl rfl ?_
     refine o_pt rfl rfl rfl ?_
     exact o_sub (sr (Sub.skip rfl (Sub.skip rfl (Sub.skip rfl (Sub.skip rfl (Sub.refl _)))))) hk
    refine o_nil (q_then ?_)
    refine c_join (G := Int × DWheel × Option Addr × NC × (Nat → Prop))
     (fun ⟨o, la, ala_0, cla_0, Sla_0⟩ => [(4, .pointer (some ⟨B1, 0, none⟩)), (9, .pointer (some ⟨B8, 0, none⟩)), (10, Vi (Wh.newErr to)), (11, .pointer (some ⟨B14, 0, none⟩)), (12, Vi (Wh.addErr wh t)), (13, .pointer (some ⟨B20, 0, none⟩)), (14, Vi (Wh.cancelErr wh id)), (15, .pointer (some ⟨B29, 0, none⟩)), (16, .slice a25 (Wh.gone wh to).length c26), (17, Vi (Wh.advErr wh to)), (18, Vi (Wh.next wh)), (19, Vi (Wh.nextErr wh)), (20, Vi (Wh.check wh)), (21, Vi empty), (22, .pointer (some ⟨B30, 0, none⟩)), (23, .pointer (some ⟨B31, 0, none⟩)), (24, .pointer (some ⟨B32, 0, none⟩)), (25, .pointer (some ⟨B33, 0, none⟩)), (26, Vi v), (27, Vi u), (28, Vi o), (29, Vi (Wh.check wh)), (30, .slice a83 (Wh.isort go1).length c84), (31, Vi 0), (32, .slice a51 (Wh.timers wh.slots).length c52)])
     (fun ⟨o, la, ala_0, cla_0, Sla_0⟩ => [own tTimer S81 a83 c84 (Wh.isort go1), own tTimer Sleft aleft cleft left, own tTimer Sgo1 ago1 cgo1 go1, own tTimer S49 a51 c52 (Wh.timers wh.slots), ownN tTimer Sla_0 ala_0 cla_0 la.slots, ownN tTimer Ssp_0 asp_0 csp_0 sp.slots, ownN tTimer Sad_0 aad_0 cad_0 ad.slots, own tTimer (fun _ => False) none 0 ([]), ownN tTimer Sno_0 ano_0 cno_0 no.slots, box B33 [Vi la.now, .slice ala_0 la.slots.length cla_0.n] 50, box B32 [Vi sp.now, .slice asp_0 sp.slots.length csp_0.n] 50, box B31 [Vi ad.now, .slice aad_0 ad.slots.length cad_0.n] 50, box B30 [Vi no.now, .slice ano_0 no.slots.length cno_0.n] 50, box B29 [Vi ((Wh.adv wh to).now), .slice a23 ((Wh.adv wh to).slots).length c24.n] 50, ⟨S21, fun w => SlRN tTimer S21 w a23 c24 ((Wh.adv wh to).slots) ∧ SlR tTimer S21 w a25 c26 (Wh.gone wh to)⟩, box B20 [Vi ((Wh.cancel wh id).now), .slice a17 ((Wh.cancel wh id).slots).length c18.n] 50, ownN tTimer S15 a17 c18 ((Wh.cancel wh id).slots), box B14 [Vi ((Wh.add wh t).now), .slice a11 ((Wh.add wh t).slots).length c12.n] 50, ownN tTimer S9 a11 c12 ((Wh.add wh t).slots), box B8 [Vi ((Wh.new to).now), .slice a5 ((Wh.new to).slots).length c6.n] 50, ownN tTimer S3 a5 c6 ((Wh.new to).slots), box B2 [Vi t.id, Vi t.due] 52, box B1 [Vi wh.now, .slice awh_0 wh.slots.length cwh_0.n] 50, base w0])
     (fun ⟨o, la, ala_0, cla_0, Sla_0⟩ => o = Wh.advErr wh to ∧ la = Wh.adv wh to)
     (fun K hK101 => ?_) ?_
    ·refine c_cond rfl (fun hc102 => ?_) (fun hc102 => ?_)
     ·simp only [Bool.or_eq_true, decide_eq_true_eq] at hc102
      have hrg : to < 0 ∨ 262143 < to := by omega
      refine c_region ?_
      refine o_as rfl rfl ?_
      refine o_nil ?_
      refine q_join hK101 (3, (⟨0, []⟩ : DWheel), none, nc0, (fun _ => False)) ?_ (sr (sr (sr (sr (sr (sr (sr (sr (sr (sr (sr (sr (sr (sr (sr (sr (sr (sr (sr (sr (sr (sr (sr (sr (sr (Sub.nil _)))))))))))))))))))))))))) (pk [0, 1, 2, 3, 4, 5, 6, 7, 8, 9, 10, 11, 12, 13, 14, 15, 16, 17, 18, 19, 20, 21, 22, 23])
      clear hK101
      first | exact Wh.sp_adv1 hok hrg | exact Wh.sp_adv2 hok hto hlt | exact Wh.sp_adv3 hok hto (by omega)
     ·simp only [Bool.or_eq_false_iff, decide_eq_false_iff_not, Int.not_lt] at hc102
      have hto : 0 ≤ to ∧ to ≤ 262143 := by omega
      refine c_seq (c_region ?_)
      refine o_mv rfl rfl ?_
      refine o_p (p_fieldAddr (j' := 0) rfl fo50_0 rfl) ?_
      refine o_p (p_load (i := 22) (v := Vi wh.now) rfl rfl sh3 rfl) ?_
      refine o_p (p_lt rfl rfl) ?_
      refine o_nil (q_then ?_)
      refine c_cond rfl (fun hc103 => ?_) (fun hc103 => ?_)
      ·simp only [decide_eq_true_eq] at hc103
       have hlt := hc103
       refine c_region ?_
       refine o_as rfl rfl ?_
       refine o_nil ?_
       refine q_join hK101 (4, (⟨0, []⟩ : DWheel), none, nc0, (fun _ => False)) ?_ (sr (sr (sr (sr (sr (sr (sr (sr (sr (sr (sr (sr (sr (sr (sr (sr (sr (sr (sr (sr (sr (sr (sr (sr (sr (Sub.nil _)))))))))))))))))))))))))) (pk [0, 1, 2, 3, 4, 5, 6, 7, 8, 9, 10, 11, 12, 13, 14, 15, 16, 17, 18, 19, 20, 21, 22, 23])
       clear hK101
       first | exact Wh.sp_adv1 hok hrg | exact Wh.sp_adv2 hok hto hlt | exact Wh.sp_adv3 hok hto (by omega)
      ·simp only [decide_eq_false_iff_not, Int.not_lt] at hc103
       have hlt := hc103
       refine c_region ?_
       refine o_mv rfl rfl ?_
       refine o_mv rfl rfl ?_
       refine o_callM rfl (wheelOf_ok to (Wh.timers wh.slots) a51 c52 (by first | assumption | exact Wh.ofh hto Wh.dw_nil | exact Wh.ofh hnw hdd | exact Wh.ofh hnw hdl | exact Wh.ofh hto hda)) hf35 (fun w hw => (rd_own (i := 3) rfl) w hw) rfl (fun _ _ _ _ ha hA => SlON.agree ha hA) ?_
       rintro ⟨a106, c107⟩ S104
       refine o_know (fun w hw => own_lenN (i := 0) (T := tTimer) hw rfl) (fun hlr108 => ?_)
       refine o_storeN (i := 10) (vs := [Vi ((Wh.of to (Wh.timers wh.slots)).now), .slice a106 ((Wh.of to (Wh.timers wh.slots)).slots).length c107.n]) (cs' := [Vi ((Wh.of to (Wh.timers wh.slots)).now), .slice a106 ((Wh.of to (Wh.timers wh.slots)).slots).length c107.n]) rfl rfl rfl sz50 rfl rfl rfl rfl ?_
       refine o_nil ?_
       refine q_join hK101 ((Wh.check wh), (Wh.of to (Wh.timers wh.slots)), a106, c107, S104) ?_ (sr (sr (sr (sr (sr (sr (sr (sr (sr (sr (sr (sr (sr (sr (sr (sr (sr (sr (sr (sr (sr (sr (sr (sr (sr (Sub.nil _)))))))))))))))))))))))))) (pk [1, 2, 3, 4, 0, 6, 7, 8, 9, 10, 11, 12, 13, 14, 15, 16, 17, 18, 19, 20, 21, 22, 23, 24])
       clear hK101
       first | exact Wh.sp_adv1 hok hrg | exact Wh.sp_adv2 hok hto hlt | exact Wh.sp_adv3 hok hto (by omega)
    rintro ⟨o, la, ala_0, cla_0, Sla_0⟩ hj5
    show SQ _ 239 w0 _ _ [(4, .pointer (some ⟨B1, 0, none⟩)), (9, .pointer (some ⟨B8, 0, none⟩)), (10, Vi (Wh.newErr to)), (11, .pointer (some ⟨B14, 0, none⟩)), (12, Vi (Wh.addErr wh t)), (13, .pointer (some ⟨B20, 0, none⟩)), (14, Vi (Wh.cancelErr wh id)), (15, .pointer (some ⟨B29, 0, none⟩)), (16, .slice a25 (Wh.gone wh to).length c26), (17, Vi (Wh.advErr wh to)), (18, Vi (Wh.next wh)), (19, Vi (Wh.nextErr wh)), (20, Vi (Wh.check wh)), (21, Vi empty), (22, .pointer (some ⟨B30, 0, none⟩)), (23, .pointer (some ⟨B31, 0, none⟩)), (24, .pointer (some ⟨B32, 0, none⟩)), (25, .pointer (some ⟨B33, 0, none⟩)), (26, Vi v), (27, Vi u), (28, Vi o), (29, Vi (Wh.check wh)), (30, .slice a83 (Wh.isort go1).length c84), (31, Vi 0), (32, .slice a51 (Wh.timers wh.slots).length c52)] [own tTimer S81 a83 c84 (Wh.isort go1), own tTimer Sleft aleft cleft left, own tTimer Sgo1 ago1 cgo1 go1, own tTimer S49 a51 c52 (Wh.timers wh.slots), ownN tTimer Sla_0 ala_0 cla_0 la.slots, ownN tTimer Ssp_0 asp_0 csp_0 sp.slots, ownN tTimer Sad_0 aad_0 cad_0 ad.slots, own tTimer (fun _ => False) none 0 ([]), ownN tTimer Sno_0 ano_0 cno_0 no.slots, box B33 [Vi la.now, .slice ala_0 la.slots.length cla_0.n] 50, box B32 [Vi sp.now, .slice asp_0 sp.slots.length csp_0.n] 50, box B31 [Vi ad.now, .slice aad_0 ad.slots.length cad_0.n] 50, box B30 [Vi no.now, .slice ano_0 no.slots.length cno_0.n] 50, box B29 [Vi ((Wh.adv wh to).now), .slice a23 ((Wh.adv wh to).slots).length c24.n] 50, ⟨S21, fun w => SlRN tTimer S21 w a23 c24 ((Wh.adv wh to).slots) ∧ SlR tTimer S21 w a25 c26 (Wh.gone wh to)⟩, box B20 [Vi ((Wh.cancel wh id).now), .slice a17 ((Wh.cancel wh id).slots).length c18.n] 50, ownN tTimer S15 a17 c18 ((Wh.cancel wh id).slots), box B14 [Vi ((Wh.add wh t).now), .slice a11 ((Wh.add wh t).slots).length c12.n] 50, ownN tTimer S9 a11 c12 ((Wh.add wh t).slots), box B8 [Vi ((Wh.new to).now), .slice a5 ((Wh.new to).slots).length c6.n] 50, ownN tTimer S3 a5 c6 ((Wh.new to).slots), box B2 [Vi t.id, Vi t.due] 52, box B1 [Vi wh.now, .slice awh_0 wh.slots.length cwh_0.n] 50, base w0]
    refine q_then (c_seq (c_region ?_))
    refine o_mv rfl rfl ?_
    refine o_p (p_len_slice rfl rfl Try.underlying57) ?_
    refine o_p (p_eq rfl rfl) ?_
    refine o_nil (q_then ?_)
    refine c_cond rfl (fun hc109 => ?_) (fun hc109 => ?_)
    ·simp only [beq_iff_eq] at hc109
     have hl0 := hc109
     refine c_region ?_
     refine o_as rfl rfl ?_
     refine o_nil ?_
     refine q_join hK47 (v, u, o, 5, (Wh.isort go1), a83, c84, S81, 0, ad, aad_0, cad_0, Sad_0, sp, asp_0, csp_0, Ssp_0, la, ala_0, cla_0, Sla_0) ?_ (sr (sr (sr (sr (sr (sr (sr (sr (sr (sr (sr (sr (sr (sr (sr (sr (sr (sr (sr (sr (sr (sr (sr (sr (Sub.nil _))))))))))))))))))))))))) (pk [4, 5, 6, 0, 8, 9, 10, 11, 12, 13, 14, 15, 16, 17, 18, 19, 20, 21, 22, 23])
     clear hK47
     first | exact ⟨hj3, hj4, hj5, Wh.sp_nx1 hok hl0, fun h9 => Wh.sp_gone hgg (by omega)⟩ | exact ⟨hj3, hj4, hj5, Wh.sp_nx2 hok hl0, fun h9 => Wh.sp_gone hgg (by omega)⟩ | (obtain ⟨q1, q2, q3, q4⟩ := Wh.sp_bad (t := t) (id := id) (to := to) hnc; exact ⟨q1, q2, q3, q4, fun h9 => absurd h9 hnc⟩)
    ·simp only [beq_eq_false_iff_ne, ne_eq] at hc109
     have hl0 := hc109
     refine c_region ?_
     refine o_mv rfl rfl ?_
     refine o_callM rfl (timersSorted_ok (Wh.timers wh.slots) a51 c52 (by first | assumption | omega)) hf37 (fun w hw => (rd_own (i := 3) rfl) w hw) rfl (fun _ _ _ _ ha hA => SlO.agree ha hA) ?_
     rintro ⟨a112, c113⟩ S110
     refine o_know (fun w hw => own_len (i := 0) (T := tTimer) hw rfl) (fun hlr114 => ?_)
     refine o_p (p_indexAddr (L := (Wh.isort (Wh.timers wh.slots))) (T := tTimer) (i := 0) rfl rfl (rd_own (i := 0) rfl) Try.underlying57 sz52 (by omega) (by omega)) ?_
     refine o_p (p_fieldAddrE rfl fo52_1) ?_
     refine o_p (p_loadF (i := 0) (j := 1) (T := tTimer) (L := (Wh.isort (Wh.timers wh.slots))) (v := Vi (((Wh.isort (Wh.timers wh.slots)).getD 0 default).due)) rfl (rd_own (i := 0) rfl) (by first | assumption | omega) sh3 (congrArg (fun z => (tTimer.enc z)[1]?) (getd_at (by first | assumption | omega) default))) ?_
     refine o_as rfl rfl ?_
     refine o_nil ?_
     refine q_join hK47 (v, u, o, (Wh.check wh), (Wh.isort go1), a83, c84, S81, ((Wh.isort (Wh.timers wh.slots)).getD 0 default).due, ad, aad_0, cad_0, Sad_0, sp, asp_0, csp_0, Ssp_0, la, ala_0, cla_0, Sla_0) ?_ (sr (sr (sr (sr (sr (sr (sr (sr (sr (sr (sr (sr (sr (sr (sr (sr (sr (sr (sr (sr (sr (sr (sr (sr (Sub.nil _))))))))))))))))))))))))) (pk [5, 6, 7, 1, 9, 10, 11, 12, 13, 14, 15, 16, 17, 18, 19, 20, 21, 22, 23, 24])
     clear hK47
     first | exact ⟨hj3, hj4, hj5, Wh.sp_nx1 hok hl0, fun h9 => Wh.sp_gone hgg (by omega)⟩ | exact ⟨hj3, hj4, hj5, Wh.sp_nx2 hok hl0, fun h9 => Wh.sp_gone hgg (by omega)⟩ | (obtain ⟨q1, q2, q3, q4⟩ := Wh.sp_bad (t := t) (id := id) (to := to) hnc; exact ⟨q1, q2, q3, q4, fun h9 => absurd h9 hnc⟩)
  ·simp only [beq_eq_false_iff_ne, ne_eq] at hc48
   have hnc := hc48
   refine c_skip ?_
   refine q_ownNil tTimer ?_
   refine q_join hK47 ((Wh.check wh), (Wh.check wh), (Wh.check wh), (Wh.check wh), [], none, 0, (fun _ => False), 0, (⟨0, []⟩ : DWheel), none, nc0, (fun _ => False), (⟨0, []⟩ : DWheel), none, nc0, (fun _ => False), (⟨0, []⟩ : DWheel), none, nc0, (fun _ => False)) ?_ (sr (sr (sr (sr (sr (sr (sr (sr (sr (sr (sr (sr (sr (sr (sr (sr (sr (sr (sr (sr (sr (sr (sr (sr (Sub.nil _))))))))))))))))))))))))) (pk [1, 2, 3, 0, 5, 6, 7, 8, 9, 10, 11, 12, 13, 14, 15, 16, 17, 18, 19, 20])
   clear hK47
   first | exact ⟨hj3, hj4, hj5, Wh.sp_nx1 hok hl0, fun h9 => Wh.sp_gone hgg (by omega)⟩ | exact ⟨hj3, hj4, hj5, Wh.sp_nx2 hok hl0, fun h9 => Wh.sp_gone hgg (by omega)⟩ | (obtain ⟨q1, q2, q3, q4⟩ := Wh.sp_bad (t := t) (id := id) (to := to) hnc; exact ⟨q1, q2, q3, q4, fun h9 => absurd h9 hnc⟩)
 rintro ⟨v, u, o, p, go1, ago1, cgo1, Sgo1, next, ad, aad_0, cad_0, Sad_0, sp, asp_0, csp_0, Ssp_0, la, ala_0, cla_0, Sla_0⟩ hj1
 show SQ _ 239 w0 _ _ [(4, .pointer (some ⟨B1, 0, none⟩)), (9, .pointer (some ⟨B8, 0, none⟩)), (10, Vi (Wh.newErr to)), (11, .pointer (some ⟨B14, 0, none⟩)), (12, Vi (Wh.addErr wh t)), (13, .pointer (some ⟨B20, 0, none⟩)), (14, Vi (Wh.cancelErr wh id)), (15, .pointer (some ⟨B29, 0, none⟩)), (16, .slice a25 (Wh.gone wh to).length c26), (17, Vi (Wh.advErr wh to)), (18, Vi (Wh.next wh)), (19, Vi (Wh.nextErr wh)), (20, Vi (Wh.check wh)), (21, Vi empty), (22, .pointer (some ⟨B30, 0, none⟩)), (23, .pointer (some ⟨B31, 0, none⟩)), (24, .pointer (some ⟨B32, 0, none⟩)), (25, .pointer (some ⟨B33, 0, none⟩)), (26, Vi v), (27, Vi u), (28, Vi o), (29, Vi p), (30, .slice ago1 go1.length cgo1), (31, Vi next)] [ownN tTimer Sla_0 ala_0 cla_0 la.slots, ownN tTimer Ssp_0 asp_0 csp_0 sp.slots, ownN tTimer Sad_0 aad_0 cad_0 ad.slots, own tTimer Sgo1 ago1 cgo1 go1, ownN tTimer Sno_0 ano_0 cno_0 no.slots, box B33 [Vi la.now, .slice ala_0 la.slots.length cla_0.n] 50, box B32 [Vi sp.now, .slice asp_0 sp.slots.length csp_0.n] 50, box B31 [Vi ad.now, .slice aad_0 ad.slots.length cad_0.n] 50, box B30 [Vi no.now, .slice ano_0 no.slots.length cno_0.n] 50, box B29 [Vi ((Wh.adv wh to).now), .slice a23 ((Wh.adv wh to).slots).length c24.n] 50, ⟨S21, fun w => SlRN tTimer S21 w a23 c24 ((Wh.adv wh to).slots) ∧ SlR tTimer S21 w a25 c26 (Wh.gone wh to)⟩, box B20 [Vi ((Wh.cancel wh id).now), .slice a17 ((Wh.cancel wh id).slots).length c18.n] 50, ownN tTimer S15 a17 c18 ((Wh.cancel wh id).slots), box B14 [Vi ((Wh.add wh t).now), .slice a11 ((Wh.add wh t).slots).length c12.n] 50, ownN tTimer S9 a11 c12 ((Wh.add wh t).slots), box B8 [Vi ((Wh.new to).now), .slice a5 ((Wh.new to).slots).length c6.n] 50, ownN tTimer S3 a5 c6 ((Wh.new to).slots), box B2 [Vi t.id, Vi t.due] 52, box B1 [Vi wh.now, .slice awh_0 wh.slots.length cwh_0.n] 50, base w0]
 refine q_then (c_seq (c_seq (c_region ?_)))
 refine o_mv rfl rfl ?_
 refine o_p (p_ne rfl rfl) ?_
 refine o_nil (q_then ?_)
 refine c_join (G := List DTimer × Option Addr × Nat × (Nat → Prop))
  (fun ⟨go1, ago1, cgo1, Sgo1⟩ => [(4, .pointer (some ⟨B1, 0, none⟩)), (9, .pointer (some ⟨B8, 0, none⟩)), (10, Vi (Wh.newErr to)), (11, .pointer (some ⟨B14, 0, none⟩)), (12, Vi (Wh.addErr wh t)), (13, .pointer (some ⟨B20, 0, none⟩)), (14, Vi (Wh.cancelErr wh id)), (15, .pointer (some ⟨B29, 0, none⟩)), (16, .slice a25 (Wh.gone wh to).length c26), (17, Vi (Wh.advErr wh to)), (18, Vi (Wh.next wh)), (19, Vi (Wh.nextErr wh)), (20, Vi (Wh.check wh)), (21, Vi empty), (22, .pointer (some ⟨B30, 0, none⟩)), (23, .pointer (some ⟨B31, 0, none⟩)), (24, .pointer (some ⟨B32, 0, none⟩)), (25, .pointer (some ⟨B33, 0, none⟩)), (26, Vi v), (27, Vi u), (28, Vi o), (29, Vi p), (30, .slice ago1 go1.length cgo1), (31, Vi next)])
  (fun ⟨go1, ago1, cgo1, Sgo1⟩ => [ownN tTimer Sla_0 ala_0 cla_0 la.slots, ownN tTimer Ssp_0 asp_0 csp_0 sp.slots, ownN tTimer Sad_0 aad_0 cad_0 ad.slots, own tTimer Sgo1 ago1 cgo1 go1, ownN tTimer Sno_0 ano_0 cno_0 no.slots, box B33 [Vi la.now, .slice ala_0 la.slots.length cla_0.n] 50, box B32 [Vi sp.now, .slice asp_0 sp.slots.length csp_0.n] 50, box B31 [Vi ad.now, .slice aad_0 ad.slots.length cad_0.n] 50, box B30 [Vi no.now, .slice ano_0 no.slots.length cno_0.n] 50, box B29 [Vi ((Wh.adv wh to).now), .slice a23 ((Wh.adv wh to).slots).length c24.n] 50, ⟨S21, fun w => SlRN tTimer S21 w a23 c24 ((Wh.adv wh to).slots) ∧ SlR tTimer S21 w a25 c26 (Wh.gone wh to)⟩, box B20 [Vi ((Wh.cancel wh id).now), .slice a17 ((Wh.cancel wh id).slots).length c18.n] 50, ownN tTimer S15 a17 c18 ((Wh.cancel wh id).slots), box B14 [Vi ((Wh.add wh t).now), .slice a11 ((Wh.add wh t).slots).length c12.n] 50, ownN tTimer S9 a11 c12 ((Wh.add wh t).slots), box B8 [Vi ((Wh.new to).now), .slice a5 ((Wh.new to).slots).length c6.n] 50, ownN tTimer S3 a5 c6 ((Wh.new to).slots), box B2 [Vi t.id, Vi t.due] 52, box B1 [Vi wh.now, .slice awh_0 wh.slots.length cwh_0.n] 50, base w0])
  (fun ⟨go1, ago1, cgo1, Sgo1⟩ => go1 = Wh.gone wh to)
  (fun K hK116 => ?_) ?_
 ·refine c_cond rfl (fun hc117 => ?_) (fun hc117 => ?_)
  ·simp only [bne_iff_ne, ne_eq] at hc117
   have hon := hc117
   refine c_region ?_
   refine o_as rfl rfl ?_
   refine o_nil ?_
   refine q_ownNil tTimer ?_
   refine q_join hK116 ([], none, 0, (fun _ => False)) ?_ (sr (sr (sr (sr (sr (sr (sr (sr (sr (sr (sr (sr (sr (sr (sr (sr (sr (sr (sr (sr (sr (sr (sr (sr (Sub.nil _))))))))))))))))))))))))) (pk [1, 2, 3, 0, 5, 6, 7, 8, 9, 10, 11, 12, 13, 14, 15, 16, 17, 18, 19, 20])
   clear hK116
   first | exact (Wh.gone_bad (by omega)).symm | exact hj1.2.2.2.2 (by omega)
  ·simp only [bne_eq_false_iff_eq] at hc117
   have hon := hc117
   refine c_skip ?_
   refine q_join hK116 (go1, ago1, cgo1, Sgo1) ?_ (sr (sr (sr (sr (sr (sr (sr (sr (sr (sr (sr (sr (sr (sr (sr (sr (sr (sr (sr (sr (sr (sr (sr (sr (Sub.nil _))))))))))))))))))))))))) (pk [0, 1, 2, 3, 4, 5, 6, 7, 8, 9, 10, 11, 12, 13, 14, 15, 16, 17, 18, 19])
   clear hK116
   first | exact (Wh.gone_bad (by omega)).symm | exact hj1.2.2.2.2 (by omega)
 rintro ⟨go1, ago1, cgo1, Sgo1⟩ hq1
 show SQ _ 239 w0 _ _ [(4, .pointer (some ⟨B1, 0, none⟩)), (9, .pointer (some ⟨B8, 0, none⟩)), (10, Vi (Wh.newErr to)), (11, .pointer (some ⟨B14, 0, none⟩)), (12, Vi (Wh.addErr wh t)), (13, .pointer (some ⟨B20, 0, none⟩)), (14, Vi (Wh.cancelErr wh id)), (15, .pointer (some ⟨B29, 0, none⟩)), (16, .slice a25 (Wh.gone wh to).length c26), (17, Vi (Wh.advErr wh to)), (18, Vi (Wh.next wh)), (19, Vi (Wh.nextErr wh)), (20, Vi (Wh.check wh)), (21, Vi empty), (22, .pointer (some ⟨B30, 0, none⟩)), (23, .pointer (some ⟨B31, 0, none⟩)), (24, .pointer (some ⟨B32, 0, none⟩)), (25, .pointer (some ⟨B33, 0, none⟩)), (26, Vi v), (27, Vi u), (28, Vi o), (29, Vi p), (30, .slice ago1 go1.length cgo1), (31, Vi next)] [ownN tTimer Sla_0 ala_0 cla_0 la.slots, ownN tTimer Ssp_0 asp_0 csp_0 sp.slots, ownN tTimer Sad_0 aad_0 cad_0 ad.slots, own tTimer Sgo1 ago1 cgo1 go1, ownN tTimer Sno_0 ano_0 cno_0 no.slots, box B33 [Vi la.now, .slice ala_0 la.slots.length cla_0.n] 50, box B32 [Vi sp.now, .slice asp_0 sp.slots.length csp_0.n] 50, box B31 [Vi ad.now, .slice aad_0 ad.slots.length cad_0.n] 50, box B30 [Vi no.now, .slice ano_0 no.slots.length cno_0.n] 50, box B29 [Vi ((Wh.adv wh to).now), .slice a23 ((Wh.adv wh to).slots).length c24.n] 50, ⟨S21, fun w => SlRN tTimer S21 w a23 c24 ((Wh.adv wh to).slots) ∧ SlR tTimer S21 w a25 c26 (Wh.gone wh to)⟩, box B20 [Vi ((Wh.cancel wh id).now), .slice a17 ((Wh.cancel wh id).slots).length c18.n] 50, ownN tTimer S15 a17 c18 ((Wh.cancel wh id).slots), box B14 [Vi ((Wh.add wh t).now), .slice a11 ((Wh.add wh t).slots).length c12.n] 50, ownN tTimer S9 a11 c12 ((Wh.add wh t).slots), box B8 [Vi ((Wh.new to).now), .slice a5 ((Wh.new to).slots).length c6.n] 50, ownN tTimer S3 a5 c6 ((Wh.new to).slots), box B2 [Vi t.id, Vi t.due] 52, box B1 [Vi wh.now, .slice awh_0 wh.slots.length cwh_0.n] 50, base w0]
 refine q_then (c_seq (c_region ?_))
 refine o_call0 (v := .bool true) rfl (wheelBegun_ok ) hf40 (fun _ _ => trivial) rfl ?_
 refine o_mv rfl rfl ?_
 refine o_unguard 178 rfl rfl ?_
 refine o_p (p_load_agg (i := 18) (vs := [Vi wh.now, .slice awh_0 wh.slots.length cwh_0.n]) rfl rfl sh50 rfl rfl) ?_
 refine o_unguard 178 rfl rfl ?_
 refine o_call0 (v := Vi (Wh.check wh)) rfl (wcheck_ok wh awh_0 cwh_0) hf41 (fun w hw => (rd_baseN (i := 19) rfl hwh_0) w hw) rfl ?_
 refine o_unguard 178 rfl rfl ?_
 refine o_mv rfl rfl ?_
 refine o_unguard 178 rfl rfl ?_
 refine o_p (p_eq rfl rfl) ?_
 refine o_pt rfl rfl rfl ?_
 refine o_mv rfl rfl ?_
 refine o_and (p := 188) 4 (decide ((Wh.new to) = no)) ?_ ?_ ?_
 ·intro hb119 hk
  simp only [beq_iff_eq] at hb119
  refine o_unguard 184 rfl rfl ?_
  refine o_p (p_load_agg (i := 15) (vs := [Vi ((Wh.new to).now), .slice a5 ((Wh.new to).slots).length c6.n]) rfl rfl sh50 rfl rfl) ?_
  refine o_unguard 184 rfl rfl ?_
  refine o_p (p_load_agg (i := 8) (vs := [Vi no.now, .slice ano_0 no.slots.length cno_0.n]) rfl rfl sh50 rfl rfl) ?_
  refine o_unguard 184 rfl rfl ?_
  refine o_call0 (v := .bool (decide ((Wh.new to) = no))) rfl (sameWheel_ok (Wh.new to) a5 c6 no ano_0 cno_0) hf42 (fun w hw => ⟨(rd_ownN (i := 16) rfl) w hw, (rd_ownN (i := 4) rfl) w hw⟩) rfl ?_
  refine o_pt rfl rfl rfl ?_
  exact o_sub (sr (Sub.skip rfl (Sub.skip rfl (Sub.skip rfl (Sub.skip rfl (Sub.skip rfl (Sub.refl _))))))) hk
 ·intro hb119 hk
  refine o_guard_no rfl 184 rfl rfl rfl rfl rfl ?_
  refine o_guard_no rfl 184 rfl rfl rfl rfl rfl ?_
  refine o_guard_no rfl 184 rfl rfl rfl rfl rfl ?_
  refine o_pf rfl rfl rfl ?_
  exact o_sub (sr (Sub.skip rfl (Sub.skip rfl (Sub.skip rfl (Sub.skip rfl (Sub.skip rfl (Sub.refl _))))))) hk
 refine o_mv rfl rfl ?_
 refine o_and (p := 193) 4 ((Wh.newErr to) == empty) ?_ ?_ ?_
 ·intro hb120 hk
  simp only [Bool.and_eq_true, beq_iff_eq, decide_eq_true_eq] at hb120
  refine o_unguard 189 rfl rfl ?_
  refine o_mv rfl rfl ?_
  refine o_unguard 189 rfl rfl ?_
  refine o_mv rfl rfl ?_
  refine o_unguard 189 rfl rfl ?_
  refine o_p (p_eq rfl rfl) ?_
  refine o_pt rfl rfl rfl ?_
  exact o_sub (sr (Sub.skip rfl (Sub.skip rfl (Sub.skip rfl (Sub.skip rfl (Sub.skip rfl (Sub.refl _))))))) hk
 ·intro hb120 hk
  refine o_guard_no rfl 189 rfl rfl rfl rfl rfl ?_
  refine o_guard_no rfl 189 rfl rfl rfl rfl rfl ?_
  refine o_guard_no rfl 189 rfl rfl rfl rfl rfl ?_
  refine o_pf rfl rfl rfl ?_
  exact o_sub (sr (Sub.skip rfl (Sub.skip rfl (Sub.skip rfl (Sub.skip rfl (Sub.skip rfl (Sub.refl _))))))) hk
 refine o_mv rfl rfl ?_
 refine o_and (p := 198) 4 (decide ((Wh.add wh t) = ad)) ?_ ?_ ?_
 ·intro hb121 hk
  simp only [Bool.and_eq_true, beq_iff_eq, decide_eq_true_eq] at hb121
  refine o_unguard 194 rfl rfl ?_
  refine o_p (p_load_agg (i := 13) (vs := [Vi ((Wh.add wh t).now), .slice a11 ((Wh.add wh t).slots).length c12.n]) rfl rfl sh50 rfl rfl) ?_
  refine o_unguard 194 rfl rfl ?_
  refine o_p (p_load_agg (i := 7) (vs := [Vi ad.now, .slice aad_0 ad.slots.length cad_0.n]) rfl rfl sh50 rfl rfl) ?_
  refine o_unguard 194 rfl rfl ?_
  refine o_call0 (v := .bool (decide ((Wh.add wh t) = ad))) rfl (sameWheel_ok (Wh.add wh t) a11 c12 ad aad_0 cad_0) hf42 (fun w hw => ⟨(rd_ownN (i := 14) rfl) w hw, (rd_ownN (i := 2) rfl) w hw⟩) rfl ?_
  refine o_pt rfl rfl rfl ?_
  exact o_sub (sr (Sub.skip rfl (Sub.skip rfl (Sub.skip rfl (Sub.skip rfl (Sub.skip rfl (Sub.refl _))))))) hk
 ·intro hb121 hk
  refine o_guard_no rfl 194 rfl rfl rfl rfl rfl ?_
  refine o_guard_no rfl 194 rfl rfl rfl rfl rfl ?_
  refine o_guard_no rfl 194 rfl rfl rfl rfl rfl ?_
  refine o_pf rfl rfl rfl ?_
  exact o_sub (sr (Sub.skip rfl (Sub.skip rfl (Sub.skip rfl (Sub.skip rfl (Sub.skip rfl (Sub.refl _))))))) hk
 refine o_mv rfl rfl ?_
 refine o_and (p := 203) 4 ((Wh.addErr wh t) == v) ?_ ?_ ?_
 ·intro hb122 hk
  simp only [Bool.and_eq_true, beq_iff_eq, decide_eq_true_eq] at hb122
  refine o_unguard 199 rfl rfl ?_
  refine o_mv rfl rfl ?_
  refine o_unguard 199 rfl rfl ?_
  refine o_mv rfl rfl ?_
  refine o_unguard 199 rfl rfl ?_
  refine o_p (p_eq rfl rfl) ?_
  refine o_pt rfl rfl rfl ?_
  exact o_sub (sr (Sub.skip rfl (Sub.skip rfl (Sub.skip rfl (Sub.skip rfl (Sub.skip rfl (Sub.refl _))))))) hk
 ·intro hb122 hk
  refine o_guard_no rfl 199 rfl rfl rfl rfl rfl ?_
  refine o_guard_no rfl 199 rfl rfl rfl rfl rfl ?_
  refine o_guard_no rfl 199 rfl rfl rfl rfl rfl ?_
  refine o_pf rfl rfl rfl ?_
  exact o_sub (sr (Sub.skip rfl (Sub.skip rfl (Sub.skip rfl (Sub.skip rfl (Sub.skip rfl (Sub.refl _))))))) hk
 refine o_mv rfl rfl ?_
 refine o_and (p := 208) 4 (decide ((Wh.cancel wh id) = sp)) ?_ ?_ ?_
 ·intro hb123 hk
  simp only [Bool.and_eq_true, beq_iff_eq, decide_eq_true_eq] at hb123
  refine o_unguard 204 rfl rfl ?_
  refine o_p (p_load_agg (i := 11) (vs := [Vi ((Wh.cancel wh id).now), .slice a17 ((Wh.cancel wh id).slots).length c18.n]) rfl rfl sh50 rfl rfl) ?_
  refine o_unguard 204 rfl rfl ?_
  refine o_p (p_load_agg (i := 6) (vs := [Vi sp.now, .slice asp_0 sp.slots.length csp_0.n]) rfl rfl sh50 rfl rfl) ?_
  refine o_unguard 204 rfl rfl ?_
  refine o_call0 (v := .bool (decide ((Wh.cancel wh id) = sp))) rfl (sameWheel_ok (Wh.cancel wh id) a17 c18 sp asp_0 csp_0) hf42 (fun w hw => ⟨(rd_ownN (i := 12) rfl) w hw, (rd_ownN (i := 1) rfl) w hw⟩) rfl ?_
  refine o_pt rfl rfl rfl ?_
  exact o_sub (sr (Sub.skip rfl (Sub.skip rfl (Sub.skip rfl (Sub.skip rfl (Sub.skip rfl (Sub.refl _))))))) hk
 ·intro hb123 hk
  refine o_guard_no rfl 204 rfl rfl rfl rfl rfl ?_
  refine o_guard_no rfl 204 rfl rfl rfl rfl rfl ?_
  refine o_guard_no rfl 204 rfl rfl rfl rfl rfl ?_
  refine o_pf rfl rfl rfl ?_
  exact o_sub (sr (Sub.skip rfl (Sub.skip rfl (Sub.skip rfl (Sub.skip rfl (Sub.skip rfl (Sub.refl _))))))) hk
 refine o_mv rfl rfl ?_
 refine o_and (p := 213) 4 ((Wh.cancelErr wh id) == u) ?_ ?_ ?_
 ·intro hb124 hk
  simp only [Bool.and_eq_true, beq_iff_eq, decide_eq_true_eq] at hb124
  refine o_unguard 209 rfl rfl ?_
  refine o_mv rfl rfl ?_
  refine o_unguard 209 rfl rfl ?_
  refine o_mv rfl rfl ?_
  refine o_unguard 209 rfl rfl ?_
  refine o_p (p_eq rfl rfl) ?_
  refine o_pt rfl rfl rfl ?_
  exact o_sub (sr (Sub.skip rfl (Sub.skip rfl (Sub.skip rfl (Sub.skip rfl (Sub.skip rfl (Sub.refl _))))))) hk
 ·intro hb124 hk
  refine o_guard_no rfl 209 rfl rfl rfl rfl rfl ?_
  refine o_guard_no rfl 209 rfl rfl rfl rfl rfl ?_
  refine o_guard_no rfl 209 rfl rfl rfl rfl rfl ?_
  refine o_pf rfl rfl rfl ?_
  exact o_sub (sr (Sub.skip rfl (Sub.skip rfl (Sub.skip rfl (Sub.skip rfl (Sub.skip rfl (Sub.refl _))))))) hk
 refine o_mv rfl rfl ?_
 refine o_and (p := 218) 4 (decide ((Wh.adv wh to) = la)) ?_ ?_ ?_
 ·intro hb125 hk
  simp only [Bool.and_eq_true, beq_iff_eq, decide_eq_true_eq] at hb125
  refine o_unguard 214 rfl rfl ?_
  refine o_p (p_load_agg (i := 9) (vs := [Vi ((Wh.adv wh to).now), .slice a23 ((Wh.adv wh to).slots).length c24.n]) rfl rfl sh50 rfl rfl) ?_
  refine o_unguard 214 rfl rfl ?_
  refine o_p (p_load_agg (i := 5) (vs := [Vi la.now, .slice ala_0 la.slots.length cla_0.n]) rfl rfl sh50 rfl rfl) ?_
  refine o_unguard 214 rfl rfl ?_
  refine o_call0 (v := .bool (decide ((Wh.adv wh to) = la))) rfl (sameWheel_ok (Wh.adv wh to) a23 c24 la ala_0 cla_0) hf42 (fun w hw => ⟨(rd_entN (i := 10) rfl (fun w h => h.1)) w hw, (rd_ownN (i := 0) rfl) w hw⟩) rfl ?_
  refine o_pt rfl rfl rfl ?_
  exact o_sub (sr (Sub.skip rfl (Sub.skip rfl (Sub.skip rfl (Sub.skip rfl (Sub.skip rfl (Sub.refl _))))))) hk
 ·intro hb125 hk
  refine o_guard_no rfl 214 rfl rfl rfl rfl rfl ?_
  refine o_guard_no rfl 214 rfl rfl rfl rfl rfl ?_
  refine o_guard_no rfl 214 rfl rfl rfl rfl rfl ?_
  refine o_pf rfl rfl rfl ?_
  exact o_sub (sr (Sub.skip rfl (Sub.skip rfl (Sub.skip rfl (Sub.skip rfl (Sub.skip rfl (Sub.refl _))))))) hk
 refine o_mv rfl rfl ?_
 refine o_and (p := 223) 4 (decide ((Wh.gone wh to) = go1)) ?_ ?_ ?_
 ·intro hb126 hk
  simp only [Bool.and_eq_true, beq_iff_eq, decide_eq_true_eq] at hb126
  refine o_unguard 219 rfl rfl ?_
  refine o_mv rfl rfl ?_
  refine o_unguard 219 rfl rfl ?_
  refine o_mv rfl rfl ?_
  refine o_unguard 219 rfl rfl ?_
  refine o_call0 (v := .bool (decide ((Wh.gone wh to) = go1))) rfl (sameTimers_ok (Wh.gone wh to) a25 c26 go1 ago1 cgo1) hf43 (fun w hw => ⟨(rd_ent (i := 10) rfl (fun w h => h.2)) w hw, (rd_own (i := 3) rfl) w hw⟩) rfl ?_
  refine o_pt rfl rfl rfl ?_
  exact o_sub (sr (Sub.skip rfl (Sub.skip rfl (Sub.skip rfl (Sub.skip rfl (Sub.skip rfl (Sub.refl _))))))) hk
 ·intro hb126 hk
  refine o_guard_no rfl 219 rfl rfl rfl rfl rfl ?_
  refine o_guard_no rfl 219 rfl rfl rfl rfl rfl ?_
  refine o_guard_no rfl 219 rfl rfl rfl rfl rfl ?_
  refine o_pf rfl rfl rfl ?_
  exact o_sub (sr (Sub.skip rfl (Sub.skip rfl (Sub.skip rfl (Sub.skip rfl (Sub.skip rfl (Sub.refl _))))))) hk
 refine o_mv rfl rfl ?_
 refine o_and (p := 228) 4 ((Wh.advErr wh to) == o) ?_ ?_ ?_
 ·intro hb127 hk
  simp only [Bool.and_eq_true, beq_iff_eq, decide_eq_true_eq] at hb127
  refine o_unguard 224 rfl rfl ?_
  refine o_mv rfl rfl ?_
  refine o_unguard 224 rfl rfl ?_
  refine o_mv rfl rfl ?_
  refine o_unguard 224 rfl rfl ?_
  refine o_p (p_eq rfl rfl) ?_
  refine o_pt rfl rfl rfl ?_
  exact o_sub (sr (Sub.skip rfl (Sub.skip rfl (Sub.skip rfl (Sub.skip rfl (Sub.skip rfl (Sub.refl _))))))) hk
 ·intro hb127 hk
  refine o_guard_no rfl 224 rfl rfl rfl rfl rfl ?_
  refine o_guard_no rfl 224 rfl rfl rfl rfl rfl ?_
  refine o_guard_no rfl 224 rfl rfl rfl rfl rfl ?_
  refine o_pf rfl rfl rfl ?_
  exact o_sub (sr (Sub.skip rfl (Sub.skip rfl (Sub.skip rfl (Sub.skip rfl (Sub.skip rfl (Sub.refl _))))))) hk
 refine o_mv rfl rfl ?_
 refine o_and (p := 233) 4 ((Wh.next wh) == next) ?_ ?_ ?_
 ·intro hb128 hk
  simp only [Bool.and_eq_true, beq_iff_eq, decide_eq_true_eq] at hb128
  refine o_unguard 229 rfl rfl ?_
  refine o_mv rfl rfl ?_
  refine o_unguard 229 rfl rfl ?_
  refine o_mv rfl rfl ?_
  refine o_unguard 229 rfl rfl ?_
  refine o_p (p_eq rfl rfl) ?_
  refine o_pt rfl rfl rfl ?_
  exact o_sub (sr (Sub.skip rfl (Sub.skip rfl (Sub.skip rfl (Sub.skip rfl (Sub.skip rfl (Sub.refl _))))))) hk
 ·intro hb128 hk
  refine o_guard_no rfl 229 rfl rfl rfl rfl rfl ?_
  refine o_guard_no rfl 229 rfl rfl rfl rfl rfl ?_
  refine o_guard_no rfl 229 rfl rfl rfl rfl rfl ?_
  refine o_pf rfl rfl rfl ?_
  exact o_sub (sr (Sub.skip rfl (Sub.skip rfl (Sub.skip rfl (Sub.skip rfl (Sub.skip rfl (Sub.refl _))))))) hk
 refine o_mv rfl rfl ?_
 refine o_and (p := 238) 4 ((Wh.nextErr wh) == p) ?_ ?_ ?_
 ·intro hb129 hk
  simp only [Bool.and_eq_true, beq_iff_eq, decide_eq_true_eq] at hb129
  refine o_unguard 234 rfl rfl ?_
  refine o_mv rfl rfl ?_
  refine o_unguard 234 rfl rfl ?_
  refine o_mv rfl rfl ?_
  refine o_unguard 234 rfl rfl ?_
  refine o_p (p_eq rfl rfl) ?_
  refine o_pt rfl rfl rfl ?_
  exact o_sub (sr (Sub.skip rfl (Sub.skip rfl (Sub.skip rfl (Sub.skip rfl (Sub.skip rfl (Sub.refl _))))))) hk
 ·intro hb129 hk
  refine o_guard_no rfl 234 rfl rfl rfl rfl rfl ?_
  refine o_guard_no rfl 234 rfl rfl rfl rfl rfl ?_
  refine o_guard_no rfl 234 rfl rfl rfl rfl rfl ?_
  refine o_pf rfl rfl rfl ?_
  exact o_sub (sr (Sub.skip rfl (Sub.skip rfl (Sub.skip rfl (Sub.skip rfl (Sub.skip rfl (Sub.refl _))))))) hk
 refine o_as rfl rfl ?_
 refine o_nil (q_then (c_ret ?_))
 have hr0 : ((((((((((((((Wh.check wh) == (Wh.check wh)) && (decide ((Wh.new to) = no))) && ((Wh.newErr to) == empty)) && (decide ((Wh.add wh t) = ad))) && ((Wh.addErr wh t) == v)) && (decide ((Wh.cancel wh id) = sp))) && ((Wh.cancelErr wh id) == u)) && (decide ((Wh.adv wh to) = la))) && (decide ((Wh.gone wh to) = go1))) && ((Wh.advErr wh to) == o)) && ((Wh.next wh) == next)) && ((Wh.nextErr wh) == p)) : Bool) = true := by
  (simp only [hj0.1, hj0.2, hj1.1.1, hj1.1.2, hj1.2.1.1, hj1.2.1.2, hj1.2.2.1.1, hj1.2.2.1.2, hj1.2.2.2.1.1, hj1.2.2.2.1.2, hq1]; simp; done)
 refine q_end0 (v := .bool (((((((((((((Wh.check wh) == (Wh.check wh)) && (decide ((Wh.new to) = no))) && ((Wh.newErr to) == empty)) && (decide ((Wh.add wh t) = ad))) && ((Wh.addErr wh t) == v)) && (decide ((Wh.cancel wh id) = sp))) && ((Wh.cancelErr wh id) == u)) && (decide ((Wh.adv wh to) = la))) && (decide ((Wh.gone wh to) = go1))) && ((Wh.advErr wh to) == o)) && ((Wh.next wh) == next)) && ((Wh.nextErr wh) == p))) (rt1 rfl (r_tmp rfl)) (i := 19) rfl ?_
 exact (by have hcc := congrArg (fun (y0 : Bool) => (.bool y0 : Value)) hr0; exact hcc)
end Go.Proofs.Ytnmbkopnopaigaa

/- How the arguments read. -/
namespace Go.Proofs.Ytnmbkopnopaigaa
open Go.ChangeShapes Go.WideShapes Go.ChangeAt Go.RowKit Go.Sx
def WtTimer (c : DTimer) : Prop := In64 c.id ∧ In64 c.due
set_option maxRecDepth 100000 in
theorem elTy_timer : ElTy Try.prog 52 tTimer WtTimer := by
 refine ⟨by kernel_rfl, by decide, fun {H} enc w fuel cs x h => ?_⟩
 obtain ⟨xs, n, _, _, hl, hxs, hf⟩ := DataW.trod_struct Try.underlying52 h
 rw [show Try.prog.cellsOf 52 = 2 by kernel_rfl] at hl
 match cs, hl, xs, hxs with
 | [c0, c1], _, [y0, y1], _ =>
  have k3 : Try.prog.cellsOf 3 = 1 := by kernel_rfl
  have h0 : DataW.trod enc Try.prog w 0 (fun _ => true) true n 3 (([c0, c1].drop 0).take (Try.prog.cellsOf 3)) = some y0 := hf 0 _ rfl
  rw [k3] at h0
  simp only [List.drop_zero, List.drop_succ_cons, List.take_succ_cons, List.take_zero] at h0
  obtain ⟨z0, e0, _, w0⟩ := DataW.trod_int Try.underlying3 h0
  simp only [List.cons.injEq, and_true] at e0
  have h1 : DataW.trod enc Try.prog w 0 (fun _ => true) true n 3 (([c0, c1].drop 1).take (Try.prog.cellsOf 3)) = some y1 := hf 1 _ rfl
  rw [k3] at h1
  simp only [List.drop_zero, List.drop_succ_cons, List.take_succ_cons, List.take_zero] at h1
  obtain ⟨z1, e1, _, w1⟩ := DataW.trod_int Try.underlying3 h1
  simp only [List.cons.injEq, and_true] at e1
  subst e0 e1
  exact ⟨⟨z0, z1⟩, rfl, ⟨in64_of w0, in64_of w1⟩⟩
set_option maxRecDepth 100000 in
theorem open_wheel {Hh : Type} {enc : TypeId × Value → Hh} {w : World} {v : Value} {dd : DataW Hh} {ps : List MemPlace} {b0 : Nat} {r : Reach} (hv : Value.okWide Try.prog w r b0 50 v) (h : DataW.Trod enc Try.prog w 0 (fun _ => true) true 50 v dd ps) (hsz : ∀ m ∈ dd.weights Try.prog 50, m ≤ reachBytes) : ∃ (c : DWheel) (ac_0 : Option Addr) (cc_0 : NC), v = .agg #[.int .i64 c.now, .slice ac_0 c.slots.length cc_0.n] ∧ RdN tTimer w ac_0 cc_0 c.slots ∧ (∀ l_ ∈ c.slots, ∀ z ∈ l_, WtTimer z) := by
 obtain ⟨cs, rfl, _⟩ := okWide_struct Try.underlying50 hv
 obtain ⟨fuel, hm⟩ := h
 obtain ⟨xs, n, _, hx, hl, hxs, hf⟩ := DataW.trod_struct Try.underlying50 hm
 rw [show Try.prog.cellsOf 50 = 2 by kernel_rfl] at hl
 simp only [Value.cells] at hl hf hx
 match hcs : cs.toList, hl, xs, hxs with
 | [c0, c1], _, [y0, y1], _ =>
  rw [hcs] at hf
  have hd : dd = .agg [y0.1, y1.1] := by have := congrArg Prod.fst hx; simpa using this
  subst hd
  have k3 : Try.prog.cellsOf 3 = 1 := by kernel_rfl
  have k48 : Try.prog.cellsOf 48 = 1 := by kernel_rfl
  have h0 : DataW.trod enc Try.prog w 0 (fun _ => true) true n 3 (([c0, c1].drop 0).take (Try.prog.cellsOf 3)) = some y0 := hf 0 _ rfl
  rw [k3] at h0
  simp only [List.drop_zero, List.drop_succ_cons, List.take_succ_cons, List.take_zero] at h0
  obtain ⟨z0, e0, _, w0⟩ := DataW.trod_int Try.underlying3 h0
  simp only [List.cons.injEq, and_true] at e0
  have h1 : DataW.trod enc Try.prog w 0 (fun _ => true) true n 48 (([c0, c1].drop 1).take (Try.prog.cellsOf 48)) = some y1 := hf 1 _ rfl
  rw [k48] at h1
  simp only [List.drop_zero, List.drop_succ_cons, List.take_succ_cons, List.take_zero] at h1
  obtain ⟨a1, cp1, z1, e1, rd1, wf1⟩ := open_rdN_cs Try.underlying48 Try.underlying57 (by kernel_rfl) (elTy_timer) (of_decide_eq_true (by kernel_rfl)) (of_decide_eq_true (by kernel_rfl)) (show DataW.trod enc Try.prog w 0 (fun _ => true) true n 48 [c1] = some (y1.1, y1.2) from h1) (fun m hm => hsz m (by simp only [DataW.weights, Try.underlying50]; exact weights_each (j := 1) rfl rfl m hm))
  simp only [List.cons.injEq, and_true] at e1
  subst e0 e1
  refine ⟨⟨z0, z1⟩, a1, cp1, ?_, rd1, wf1⟩
  have : cs = #[.int .i64 z0, .slice a1 z1.length cp1.n] := by apply Array.ext'; rw [hcs]
  rw [this]
end Go.Proofs.Ytnmbkopnopaigaa
