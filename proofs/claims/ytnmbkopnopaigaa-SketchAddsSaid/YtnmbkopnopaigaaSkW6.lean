/- The walks, printed by a program from the translation and a specification. -/
import Derived.Test.YtnmbkopnopaigaaSkF
import Derived.Test.YtnmbkopnopaigaaSkLaw
import Derived.Test.YtnmbkopnopaigaaSkW5
import Derived.Test.YtnmbkopnopaigaaSkLaw4
namespace Go.Proofs.Ytnmbkopnopaigaa
open Go.Sx Go.RowKit
set_option maxHeartbeats 8000000 in
set_option maxRecDepth 100000 in
theorem sketchMerge_ok (a : DSketch) (aa_0 : Option Addr) (ca_0 : NC) (b : DSketch) (ab_0 : Option Addr) (cb_0 : NC) (key : ByteArray) (many : Int) : Fn0 Try.prog 5 [.agg #[Vi a.wide, .slice aa_0 a.counts.length ca_0.n], .agg #[Vi b.wide, .slice ab_0 b.counts.length cb_0.n], .string key, Vi many] (fun w => RdN tInt w aa_0 ca_0 a.counts ∧ RdN tInt w ab_0 cb_0 b.counts) (.bool true) := by
 refine fn0 (nt := 110) (F0 := [(0, .agg #[Vi a.wide, .slice aa_0 a.counts.length ca_0.n]), (1, .agg #[Vi b.wide, .slice ab_0 b.counts.length cb_0.n]), (2, .string key), (3, Vi many)]) Try.func5 rfl Try.ntmps5 rfl rfl (fun w0 hpre => ?_)
 obtain ⟨ha_0, hb_0⟩ := hpre
 have hlha_0 := ha_0.2.1
 have hlhb_0 := hb_0.2.1
 refine c_seq (c_region ?_)
 refine o_box (v := .agg #[Vi a.wide, .slice aa_0 a.counts.length ca_0.n]) rfl rfl (fun B1 => ?_)
 refine o_box (v := .agg #[Vi b.wide, .slice ab_0 b.counts.length cb_0.n]) rfl rfl (fun B2 => ?_)
 refine o_as rfl rfl ?_
 refine o_nil (q_then (c_seq (c_region ?_)))
 refine o_p (p_load_agg (i := 1) (vs := [Vi a.wide, .slice aa_0 a.counts.length ca_0.n]) rfl rfl sh24 rfl rfl) ?_
 refine o_p (p_load_agg (i := 0) (vs := [Vi b.wide, .slice ab_0 b.counts.length cb_0.n]) rfl rfl sh24 rfl rfl) ?_
 refine o_callM rfl (smerge_ok a aa_0 ca_0 b ab_0 cb_0) hf15 (fun w hw => ⟨(rd_baseN (i := 2) rfl ha_0) w hw, (rd_baseN (i := 2) rfl hb_0) w hw⟩) rfl (fun _ _ _ _ ha hA => SlON.agree ha hA) ?_
 rintro ⟨a5, c6⟩ S3
 refine o_know (fun w hw => own_lenN (i := 0) (T := tInt) hw rfl) (fun hlr7 => ?_)
 refine o_mv rfl rfl ?_
 refine o_ex rfl rfl rfl ?_
 refine o_ex rfl rfl rfl ?_
 refine o_alloc ze24 rfl (fun B8 => ?_)
 refine o_storeN (i := 0) (vs := [Vi ((Sk.merge a b).wide), .slice a5 ((Sk.merge a b).counts).length c6.n]) (cs' := [Vi ((Sk.merge a b).wide), .slice a5 ((Sk.merge a b).counts).length c6.n]) rfl rfl rfl sz24 rfl rfl rfl rfl ?_
 refine o_as rfl rfl ?_
 refine o_nil (q_then (c_seq (c_region ?_)))
 refine o_p (p_load_agg (i := 2) (vs := [Vi b.wide, .slice ab_0 b.counts.length cb_0.n]) rfl rfl sh24 rfl rfl) ?_
 refine o_p (p_load_agg (i := 3) (vs := [Vi a.wide, .slice aa_0 a.counts.length ca_0.n]) rfl rfl sh24 rfl rfl) ?_
 refine o_callM rfl (smerge_ok b ab_0 cb_0 a aa_0 ca_0) hf15 (fun w hw => ⟨(rd_baseN (i := 4) rfl hb_0) w hw, (rd_baseN (i := 4) rfl ha_0) w hw⟩) rfl (fun _ _ _ _ ha hA => SlON.agree ha hA) ?_
 rintro ⟨a11, c12⟩ S9
 refine o_know (fun w hw => own_lenN (i := 0) (T := tInt) hw rfl) (fun hlr13 => ?_)
 refine o_mv rfl rfl ?_
 refine o_ex rfl rfl rfl ?_
 refine o_ex rfl rfl rfl ?_
 refine o_alloc ze24 rfl (fun B14 => ?_)
 refine o_storeN (i := 0) (vs := [Vi ((Sk.merge b a).wide), .slice a11 ((Sk.merge b a).counts).length c12.n]) (cs' := [Vi ((Sk.merge b a).wide), .slice a11 ((Sk.merge b a).counts).length c12.n]) rfl rfl rfl sz24 rfl rfl rfl rfl ?_
 refine o_as rfl rfl ?_
 refine o_nil (q_then (c_seq (c_seq (c_region ?_))))
 refine o_call0 (v := .bool true) rfl (sketchBegun_ok ) hf25 (fun _ _ => trivial) rfl ?_
 refine o_p (p_not (b := true) rfl) ?_
 refine o_nil (q_then ?_)
 refine c_false rfl ?_
 refine c_skip (q_then (c_seq (c_seq (c_region ?_))))
 refine o_mv rfl rfl ?_
 refine o_p (p_ne rfl rfl) ?_
 refine o_nil (q_then ?_)
 refine c_cond rfl (fun hc15 => ?_) (fun hc15 => ?_)
 ·simp only [bne_iff_ne, ne_eq] at hc15
  have hbad := hc15
  refine c_seq (c_region ?_)
  refine o_p (p_load_agg (i := 2) (vs := [Vi ((Sk.merge a b).wide), .slice a5 ((Sk.merge a b).counts).length c6.n]) rfl rfl sh24 rfl rfl) ?_
  refine o_p (p_build (cells := [Vi 0, .slice none 0 0]) fp24 ze24 rfl rfl) ?_
  refine o_call0 (v := .bool (decide ((Sk.merge a b) = (⟨0, []⟩ : DSketch)))) rfl (sameSketch_ok (Sk.merge a b) a5 c6 (⟨0, []⟩ : DSketch) none nc0) hf27 (fun w hw => ⟨(rd_ownN (i := 3) rfl) w hw, rd_nilN w hw⟩) rfl ?_
  refine o_as rfl rfl ?_
  refine o_nil (q_then (c_ret ?_))
  refine q_then_ret ?_
  have hr0 : ((decide ((Sk.merge a b) = (⟨0, []⟩ : DSketch))) : Bool) = true := by
   first | rfl | (rw [Sk.mrg_bad hbad]; rfl) | exact Sk.merge_bad2 hgo hno | (simp [q2, q3, q4, q5, q6]; done)
  refine q_end0 (v := .bool (decide ((Sk.merge a b) = (⟨0, []⟩ : DSketch)))) (rt1 rfl (r_tmp rfl)) (i := 6) rfl ?_
  exact (by have hcc := congrArg (fun (y0 : Bool) => (.bool y0 : Value)) hr0; exact hcc)
 ·simp only [bne_eq_false_iff_eq] at hc15
  have hgo := hc15
  have hM := Sk.mrgErr_iff.1 hc15
  have hMs := Sk.mrgErr_iff.2 hM.symm
  have hMc := hM.comm
  refine c_skip (q_then (c_seq (c_seq (c_region ?_))))
  refine o_mv rfl rfl ?_
  refine o_p (p_ne rfl rfl) ?_
  refine o_mv rfl rfl ?_
  refine o_or (p := 49) 5 (!(decide ((Sk.merge a b) = (Sk.merge b a)))) ?_ ?_ ?_
  ·intro hb16 hk
   simp only [bne_eq_false_iff_eq] at hb16
   refine o_unguard 44 rfl rfl ?_
   refine o_p (p_load_agg (i := 2) (vs := [Vi ((Sk.merge a b).wide), .slice a5 ((Sk.merge a b).counts).length c6.n]) rfl rfl sh24 rfl rfl) ?_
   refine o_unguard 44 rfl rfl ?_
   refine o_p (p_load_agg (i := 0) (vs := [Vi ((Sk.merge b a).wide), .slice a11 ((Sk.merge b a).counts).length c12.n]) rfl rfl sh24 rfl rfl) ?_
   refine o_unguard 44 rfl rfl ?_
   refine o_call0 (v := .bool (decide ((Sk.merge a b) = (Sk.merge b a)))) rfl (sameSketch_ok (Sk.merge a b) a5 c6 (Sk.merge b a) a11 c12) hf27 (fun w hw => ⟨(rd_ownN (i := 3) rfl) w hw, (rd_ownN (i := 1) rfl) w hw⟩) rfl ?_
   refine o_unguard 44 rfl rfl ?_
   refine o_p (p_not (b := (decide ((Sk.merge a b) = (Sk.merge b a)))) rfl) ?_
   refine o_pf rfl rfl rfl ?_
   exact o_sub (sr (Sub.skip rfl (Sub.skip rfl (Sub.skip rfl (Sub.skip rfl (Sub.skip rfl (Sub.skip rfl (Sub.refl _)))))))) hk
  ·intro hb16 hk
   refine o_guard_no rfl 44 rfl rfl rfl rfl rfl ?_
   refine o_guard_no rfl 44 rfl rfl rfl rfl rfl ?_
   refine o_guard_no rfl 44 rfl rfl rfl rfl rfl ?_
   refine o_guard_no rfl 44 rfl rfl rfl rfl rfl ?_
   refine o_pt rfl rfl rfl ?_
   exact o_sub (sr (Sub.skip rfl (Sub.skip rfl (Sub.skip rfl (Sub.skip rfl (Sub.skip rfl (Sub.skip rfl (Sub.refl _)))))))) hk
  refine o_nil (q_then ?_)
  refine c_cond rfl (fun hc17 => ?_) (fun hc17 => ?_)
  ·simp only [Bool.or_eq_true, bne_iff_ne, ne_eq, Bool.not_eq_true', decide_eq_false_iff_not] at hc17
   exfalso; rcases hc17 with h9 | h9; exact h9 hMs; exact absurd hMc (by simpa using h9)
  ·simp only [Bool.or_eq_false_iff, bne_eq_false_iff_eq, Bool.not_eq_false', decide_eq_true_eq] at hc17
   refine c_skip (q_then (c_seq (c_region ?_)))
   refine o_p (p_load_agg (i := 5) (vs := [Vi a.wide, .slice aa_0 a.counts.length ca_0.n]) rfl rfl sh24 rfl rfl) ?_
   refine o_mv rfl rfl ?_
   refine o_mv rfl rfl ?_
   refine o_callM rfl (sadd_ok a aa_0 ca_0 key many) hf13 (fun w hw => (rd_baseN (i := 6) rfl ha_0) w hw) rfl (fun _ _ _ _ ha hA => SlON.agree ha hA) ?_
   rintro ⟨a20, c21⟩ S18
   refine o_know (fun w hw => own_lenN (i := 0) (T := tInt) hw rfl) (fun hlr22 => ?_)
   refine o_mv rfl rfl ?_
   refine o_ex rfl rfl rfl ?_
   refine o_ex rfl rfl rfl ?_
   refine o_alloc ze24 rfl (fun B23 => ?_)
   refine o_storeN (i := 0) (vs := [Vi ((Sk.add a key many).wide), .slice a20 ((Sk.add a key many).counts).length c21.n]) (cs' := [Vi ((Sk.add a key many).wide), .slice a20 ((Sk.add a key many).counts).length c21.n]) rfl rfl rfl sz24 rfl rfl rfl rfl ?_
   refine o_as rfl rfl ?_
   refine o_nil (q_then (c_seq (c_region ?_)))
   refine o_p (p_load_agg (i := 4) (vs := [Vi ((Sk.merge a b).wide), .slice a5 ((Sk.merge a b).counts).length c6.n]) rfl rfl sh24 rfl rfl) ?_
   refine o_mv rfl rfl ?_
   refine o_mv rfl rfl ?_
   refine o_callM rfl (sadd_ok (Sk.merge a b) a5 c6 key many) hf13 (fun w hw => (rd_ownN (i := 5) rfl) w hw) rfl (fun _ _ _ _ ha hA => SlON.agree ha hA) ?_
   rintro ⟨a26, c27⟩ S24
   refine o_know (fun w hw => own_lenN (i := 0) (T := tInt) hw rfl) (fun hlr28 => ?_)
   refine o_mv rfl rfl ?_
   refine o_ex rfl rfl rfl ?_
   refine o_ex rfl rfl rfl ?_
   refine o_alloc ze24 rfl (fun B29 => ?_)
   refine o_storeN (i := 0) (vs := [Vi ((Sk.add (Sk.merge a b) key many).wide), .slice a26 ((Sk.add (Sk.merge a b) key many).counts).length c27.n]) (cs' := [Vi ((Sk.add (Sk.merge a b) key many).wide), .slice a26 ((Sk.add (Sk.merge a b) key many).counts).length c27.n]) rfl rfl rfl sz24 rfl rfl rfl rfl ?_
   refine o_as rfl rfl ?_
   refine o_nil (q_then (c_seq (c_seq (c_region ?_))))
   refine o_mv rfl rfl ?_
   refine o_p (p_ne rfl rfl) ?_
   refine o_mv rfl rfl ?_
   refine o_or (p := 69) 3 ((Sk.addErr (Sk.merge a b) key many) != 0) ?_ ?_ ?_
   ·intro hb30 hk
    simp only [bne_eq_false_iff_eq] at hb30
    refine o_unguard 66 rfl rfl ?_
    refine o_mv rfl rfl ?_
    refine o_unguard 66 rfl rfl ?_
    refine o_p (p_ne rfl rfl) ?_
    refine o_pf rfl rfl rfl ?_
    exact o_sub (sr (Sub.skip rfl (Sub.skip rfl (Sub.skip rfl (Sub.skip rfl (Sub.refl _)))))) hk
   ·intro hb30 hk
    refine o_guard_no rfl 66 rfl rfl rfl rfl rfl ?_
    refine o_guard_no rfl 66 rfl rfl rfl rfl rfl ?_
    refine o_pt rfl rfl rfl ?_
    exact o_sub (sr (Sub.skip rfl (Sub.skip rfl (Sub.skip rfl (Sub.skip rfl (Sub.refl _)))))) hk
   refine o_nil (q_then ?_)
   refine c_cond rfl (fun hc31 => ?_) (fun hc31 => ?_)
   ·simp only [Bool.or_eq_true, bne_iff_ne, ne_eq] at hc31
    have hno := hc31
    refine c_seq (c_region ?_)
    refine o_mv rfl rfl ?_
    refine o_p (p_ne rfl rfl) ?_
    refine o_as rfl rfl ?_
    refine o_nil (q_then (c_ret ?_))
    refine q_then_ret ?_
    have hr0 : (((Sk.addErr (Sk.merge a b) key many) != 0) : Bool) = true := by
     first | rfl | (rw [Sk.mrg_bad hbad]; rfl) | exact Sk.merge_bad2 hgo hno | (simp [q2, q3, q4, q5, q6]; done)
    refine q_end0 (v := .bool ((Sk.addErr (Sk.merge a b) key many) != 0)) (rt1 rfl (r_tmp rfl)) (i := 10) rfl ?_
    exact (by have hcc := congrArg (fun (y0 : Bool) => (.bool y0 : Value)) hr0; exact hcc)
   ·simp only [Bool.or_eq_false_iff, bne_eq_false_iff_eq] at hc31
    obtain ⟨hy1_, hy2_⟩ := hc31
    obtain ⟨q1, q2, q3, q4, q5, q6⟩ := Sk.merge_law hgo hy2_
    refine c_skip (q_then (c_seq (c_region ?_)))
    refine o_p (p_load_agg (i := 2) (vs := [Vi ((Sk.add a key many).wide), .slice a20 ((Sk.add a key many).counts).length c21.n]) rfl rfl sh24 rfl rfl) ?_
    refine o_p (p_load_agg (i := 8) (vs := [Vi b.wide, .slice ab_0 b.counts.length cb_0.n]) rfl rfl sh24 rfl rfl) ?_
    refine o_callM rfl (smerge_ok (Sk.add a key many) a20 c21 b ab_0 cb_0) hf15 (fun w hw => ⟨(rd_ownN (i := 3) rfl) w hw, (rd_baseN (i := 10) rfl hb_0) w hw⟩) rfl (fun _ _ _ _ ha hA => SlON.agree ha hA) ?_
    rintro ⟨a34, c35⟩ S32
    refine o_know (fun w hw => own_lenN (i := 0) (T := tInt) hw rfl) (fun hlr36 => ?_)
    refine o_mv rfl rfl ?_
    refine o_ex rfl rfl rfl ?_
    refine o_ex rfl rfl rfl ?_
    refine o_alloc ze24 rfl (fun B37 => ?_)
    refine o_storeN (i := 0) (vs := [Vi ((Sk.merge (Sk.add a key many) b).wide), .slice a34 ((Sk.merge (Sk.add a key many) b).counts).length c35.n]) (cs' := [Vi ((Sk.merge (Sk.add a key many) b).wide), .slice a34 ((Sk.merge (Sk.add a key many) b).counts).length c35.n]) rfl rfl rfl sz24 rfl rfl rfl rfl ?_
    refine o_as rfl rfl ?_
    refine o_nil (q_then (c_seq (c_region ?_)))
    refine o_p (p_load_agg (i := 11) (vs := [Vi a.wide, .slice aa_0 a.counts.length ca_0.n]) rfl rfl sh24 rfl rfl) ?_
    refine o_mv rfl rfl ?_
    refine o_call0 (v := .tuple #[Vi (Sk.est a key), Vi (Sk.keyErr a key)]) rfl (sest_ok a aa_0 ca_0 key) hf14 (fun w hw => (rd_baseN (i := 12) rfl ha_0) w hw) rfl ?_
    refine o_mv rfl rfl ?_
    refine o_ex rfl rfl rfl ?_
    refine o_ex rfl rfl rfl ?_
    refine o_as rfl rfl ?_
    refine o_as rfl rfl ?_
    refine o_nil (q_then (c_seq (c_region ?_)))
    refine o_p (p_load_agg (i := 8) (vs := [Vi ((Sk.merge a b).wide), .slice a5 ((Sk.merge a b).counts).length c6.n]) rfl rfl sh24 rfl rfl) ?_
    refine o_mv rfl rfl ?_
    refine o_call0 (v := .tuple #[Vi (Sk.est (Sk.merge a b) key), Vi (Sk.keyErr (Sk.merge a b) key)]) rfl (sest_ok (Sk.merge a b) a5 c6 key) hf14 (fun w hw => (rd_ownN (i := 9) rfl) w hw) rfl ?_
    refine o_mv rfl rfl ?_
    refine o_ex rfl rfl rfl ?_
    refine o_ex rfl rfl rfl ?_
    refine o_as rfl rfl ?_
    refine o_as rfl rfl ?_
    refine o_nil (q_then (c_seq (c_region ?_)))
    refine o_mv rfl rfl ?_
    refine o_p (p_eq rfl rfl) ?_
    refine o_mv rfl rfl ?_
    refine o_and (p := 96) 4 (decide ((Sk.merge (Sk.add a key many) b) = (Sk.add (Sk.merge a b) key many))) ?_ ?_ ?_
    ·intro hb38 hk
     simp only [beq_iff_eq] at hb38
     refine o_unguard 92 rfl rfl ?_
     refine o_p (p_load_agg (i := 0) (vs := [Vi ((Sk.merge (Sk.add a key many) b).wide), .slice a34 ((Sk.merge (Sk.add a key many) b).counts).length c35.n]) rfl rfl sh24 rfl rfl) ?_
     refine o_unguard 92 rfl rfl ?_
     refine o_p (p_load_agg (i := 2) (vs := [Vi ((Sk.add (Sk.merge a b) key many).wide), .slice a26 ((Sk.add (Sk.merge a b) key many).counts).length c27.n]) rfl rfl sh24 rfl rfl) ?_
     refine o_unguard 92 rfl rfl ?_
     refine o_call0 (v := .bool (decide ((Sk.merge (Sk.add a key many) b) = (Sk.add (Sk.merge a b) key many)))) rfl (sameSketch_ok (Sk.merge (Sk.add a key many) b) a34 c35 (Sk.add (Sk.merge a b) key many) a26 c27) hf27 (fun w hw => ⟨(rd_ownN (i := 1) rfl) w hw, (rd_ownN (i := 3) rfl) w hw⟩) rfl ?_
     refine o_pt rfl rfl rfl ?_
     exact o_sub (sr (Sub.skip rfl (Sub.skip rfl (Sub.skip rfl (Sub.skip rfl (Sub.skip rfl (Sub.refl _))))))) hk
    ·intro hb38 hk
     refine o_guard_no rfl 92 rfl rfl rfl rfl rfl ?_
     refine o_guard_no rfl 92 rfl rfl rfl rfl rfl ?_
     refine o_guard_no rfl 92 rfl rfl rfl rfl rfl ?_
     refine o_pf rfl rfl rfl ?_
     exact o_sub (sr (Sub.skip rfl (Sub.skip rfl (Sub.skip rfl (Sub.skip rfl (Sub.skip rfl (Sub.refl _))))))) hk
    refine o_mv rfl rfl ?_
    refine o_and (p := 100) 3 ((Sk.keyErr a key) == 0) ?_ ?_ ?_
    ·intro hb39 hk
     simp only [Bool.and_eq_true, beq_iff_eq, decide_eq_true_eq] at hb39
     refine o_unguard 97 rfl rfl ?_
     refine o_mv rfl rfl ?_
     refine o_unguard 97 rfl rfl ?_
     refine o_p (p_eq rfl rfl) ?_
     refine o_pt rfl rfl rfl ?_
     exact o_sub (sr (Sub.skip rfl (Sub.skip rfl (Sub.skip rfl (Sub.skip rfl (Sub.refl _)))))) hk
    ·intro hb39 hk
     refine o_guard_no rfl 97 rfl rfl rfl rfl rfl ?_
     refine o_guard_no rfl 97 rfl rfl rfl rfl rfl ?_
     refine o_pf rfl rfl rfl ?_
     exact o_sub (sr (Sub.skip rfl (Sub.skip rfl (Sub.skip rfl (Sub.skip rfl (Sub.refl _)))))) hk
    refine o_mv rfl rfl ?_
    refine o_and (p := 104) 3 ((Sk.keyErr (Sk.merge a b) key) == 0) ?_ ?_ ?_
    ·intro hb40 hk
     simp only [Bool.and_eq_true, beq_iff_eq, decide_eq_true_eq] at hb40
     refine o_unguard 101 rfl rfl ?_
     refine o_mv rfl rfl ?_
     refine o_unguard 101 rfl rfl ?_
     refine o_p (p_eq rfl rfl) ?_
     refine o_pt rfl rfl rfl ?_
     exact o_sub (sr (Sub.skip rfl (Sub.skip rfl (Sub.skip rfl (Sub.skip rfl (Sub.refl _)))))) hk
    ·intro hb40 hk
     refine o_guard_no rfl 101 rfl rfl rfl rfl rfl ?_
     refine o_guard_no rfl 101 rfl rfl rfl rfl rfl ?_
     refine o_pf rfl rfl rfl ?_
     exact o_sub (sr (Sub.skip rfl (Sub.skip rfl (Sub.skip rfl (Sub.skip rfl (Sub.refl _)))))) hk
    refine o_mv rfl rfl ?_
    refine o_and (p := 109) 4 (decide ((Sk.est a key) ≤ (Sk.est (Sk.merge a b) key))) ?_ ?_ ?_
    ·intro hb41 hk
     simp only [Bool.and_eq_true, beq_iff_eq, decide_eq_true_eq] at hb41
     refine o_unguard 105 rfl rfl ?_
     refine o_mv rfl rfl ?_
     refine o_unguard 105 rfl rfl ?_
     refine o_mv rfl rfl ?_
     refine o_unguard 105 rfl rfl ?_
     refine o_p (p_le rfl rfl) ?_
     refine o_pt rfl rfl rfl ?_
     exact o_sub (sr (Sub.skip rfl (Sub.skip rfl (Sub.skip rfl (Sub.skip rfl (Sub.skip rfl (Sub.refl _))))))) hk
    ·intro hb41 hk
     refine o_guard_no rfl 105 rfl rfl rfl rfl rfl ?_
     refine o_guard_no rfl 105 rfl rfl rfl rfl rfl ?_
     refine o_guard_no rfl 105 rfl rfl rfl rfl rfl ?_
     refine o_pf rfl rfl rfl ?_
     exact o_sub (sr (Sub.skip rfl (Sub.skip rfl (Sub.skip rfl (Sub.skip rfl (Sub.skip rfl (Sub.refl _))))))) hk
    refine o_as rfl rfl ?_
    refine o_nil (q_then (c_ret ?_))
    have hr0 : (((((((Sk.mrgErr (Sk.add a key many) b) == 0) && (decide ((Sk.merge (Sk.add a key many) b) = (Sk.add (Sk.merge a b) key many)))) && ((Sk.keyErr a key) == 0)) && ((Sk.keyErr (Sk.merge a b) key) == 0)) && decide ((Sk.est a key) ≤ (Sk.est (Sk.merge a b) key))) : Bool) = true := by
     first | rfl | (rw [Sk.mrg_bad hbad]; rfl) | exact Sk.merge_bad2 hgo hno | (simp [q2, q3, q4, q5, q6]; done)
    refine q_end0 (v := .bool ((((((Sk.mrgErr (Sk.add a key many) b) == 0) && (decide ((Sk.merge (Sk.add a key many) b) = (Sk.add (Sk.merge a b) key many)))) && ((Sk.keyErr a key) == 0)) && ((Sk.keyErr (Sk.merge a b) key) == 0)) && decide ((Sk.est a key) ≤ (Sk.est (Sk.merge a b) key)))) (rt1 rfl (r_tmp rfl)) (i := 12) rfl ?_
    exact (by have hcc := congrArg (fun (y0 : Bool) => (.bool y0 : Value)) hr0; exact hcc)

set_option maxHeartbeats 8000000 in
set_option maxRecDepth 100000 in
theorem sketchAdds_ok (s : DSketch) (as_0 : Option Addr) (cs_0 : NC) (key : ByteArray) (a : Int) (b : Int) : Fn0 Try.prog 6 [.agg #[Vi s.wide, .slice as_0 s.counts.length cs_0.n], .string key, Vi a, Vi b] (fun w => RdN tInt w as_0 cs_0 s.counts) (.bool true) := by
 refine fn0 (nt := 95) (F0 := [(0, .agg #[Vi s.wide, .slice as_0 s.counts.length cs_0.n]), (1, .string key), (2, Vi a), (3, Vi b)]) Try.func6 rfl Try.ntmps6 rfl rfl (fun w0 hpre => ?_)
 have hs_0 := hpre
 have hlhs_0 := hs_0.2.1
 have htb := Sk.total_bd s
 refine c_seq (c_region ?_)
 refine o_box (v := .agg #[Vi s.wide, .slice as_0 s.counts.length cs_0.n]) rfl rfl (fun B1 => ?_)
 refine o_as rfl rfl ?_
 refine o_nil (q_then (c_seq (c_region ?_)))
 refine o_p (p_load_agg (i := 0) (vs := [Vi s.wide, .slice as_0 s.counts.length cs_0.n]) rfl rfl sh24 rfl rfl) ?_
 refine o_mv rfl rfl ?_
 refine o_mv rfl rfl ?_
 refine o_callM rfl (sadd_ok s as_0 cs_0 key a) hf13 (fun w hw => (rd_baseN (i := 1) rfl hs_0) w hw) rfl (fun _ _ _ _ ha hA => SlON.agree ha hA) ?_
 rintro ⟨a4, c5⟩ S2
 refine o_know (fun w hw => own_lenN (i := 0) (T := tInt) hw rfl) (fun hlr6 => ?_)
 refine o_mv rfl rfl ?_
 refine o_ex rfl rfl rfl ?_
 refine o_ex rfl rfl rfl ?_
 refine o_alloc ze24 rfl (fun B7 => ?_)
 refine o_storeN (i := 0) (vs := [Vi ((Sk.add s key a).wide), .slice a4 ((Sk.add s key a).counts).length c5.n]) (cs' := [Vi ((Sk.add s key a).wide), .slice a4 ((Sk.add s key a).counts).length c5.n]) rfl rfl rfl sz24 rfl rfl rfl rfl ?_
 refine o_as rfl rfl ?_
 refine o_nil (q_then (c_seq (c_seq (c_region ?_))))
 refine o_call0 (v := .bool true) rfl (sketchBegun_ok ) hf25 (fun _ _ => trivial) rfl ?_
 refine o_p (p_not (b := true) rfl) ?_
 refine o_nil (q_then ?_)
 refine c_false rfl ?_
 refine c_skip (q_then (c_seq (c_seq (c_region ?_))))
 refine o_mv rfl rfl ?_
 refine o_p (p_ne rfl rfl) ?_
 refine o_nil (q_then ?_)
 refine c_cond rfl (fun hc8 => ?_) (fun hc8 => ?_)
 ·simp only [bne_iff_ne, ne_eq] at hc8
  have hbad := hc8
  refine c_seq (c_region ?_)
  refine o_p (p_load_agg (i := 0) (vs := [Vi ((Sk.add s key a).wide), .slice a4 ((Sk.add s key a).counts).length c5.n]) rfl rfl sh24 rfl rfl) ?_
  refine o_p (p_build (cells := [Vi 0, .slice none 0 0]) fp24 ze24 rfl rfl) ?_
  refine o_call0 (v := .bool (decide ((Sk.add s key a) = (⟨0, []⟩ : DSketch)))) rfl (sameSketch_ok (Sk.add s key a) a4 c5 (⟨0, []⟩ : DSketch) none nc0) hf27 (fun w hw => ⟨(rd_ownN (i := 1) rfl) w hw, rd_nilN w hw⟩) rfl ?_
  refine o_as rfl rfl ?_
  refine o_nil (q_then (c_ret ?_))
  refine q_then_ret ?_
  have hr0 : ((decide ((Sk.add s key a) = (⟨0, []⟩ : DSketch))) : Bool) = true := by
   first | rfl | (rw [Sk.add_bad hbad]; rfl) | (rcases hlaw with ⟨l1, l2⟩ | ⟨l1, l2, l3, l4, l5, l6⟩ <;> simp_all; done) | (rcases hlaw with ⟨l1, l2⟩ | ⟨l1, l2, l3, l4, l5, l6⟩; simp [l1, l2]; simp [l2, l3, l4, l5, l6])
  refine q_end0 (v := .bool (decide ((Sk.add s key a) = (⟨0, []⟩ : DSketch)))) (rt1 rfl (r_tmp rfl)) (i := 3) rfl ?_
  exact (by have hcc := congrArg (fun (y0 : Bool) => (.bool y0 : Value)) hr0; exact hcc)
 ·simp only [bne_eq_false_iff_eq] at hc8
  have he := hc8
  have hA := Sk.addErr_iff.1 hc8
  have m1 := hA.m1
  have m2 := hA.m2
  refine c_skip (q_then (c_seq (c_region ?_)))
  refine o_p (p_load_agg (i := 0) (vs := [Vi ((Sk.add s key a).wide), .slice a4 ((Sk.add s key a).counts).length c5.n]) rfl rfl sh24 rfl rfl) ?_
  refine o_mv rfl rfl ?_
  refine o_mv rfl rfl ?_
  refine o_callM rfl (sadd_ok (Sk.add s key a) a4 c5 key b) hf13 (fun w hw => (rd_ownN (i := 1) rfl) w hw) rfl (fun _ _ _ _ ha hA => SlON.agree ha hA) ?_
  rintro ⟨a11, c12⟩ S9
  refine o_know (fun w hw => own_lenN (i := 0) (T := tInt) hw rfl) (fun hlr13 => ?_)
  refine o_mv rfl rfl ?_
  refine o_ex rfl rfl rfl ?_
  refine o_ex rfl rfl rfl ?_
  refine o_alloc ze24 rfl (fun B14 => ?_)
  refine o_storeN (i := 0) (vs := [Vi ((Sk.add (Sk.add s key a) key b).wide), .slice a11 ((Sk.add (Sk.add s key a) key b).counts).length c12.n]) (cs' := [Vi ((Sk.add (Sk.add s key a) key b).wide), .slice a11 ((Sk.add (Sk.add s key a) key b).counts).length c12.n]) rfl rfl rfl sz24 rfl rfl rfl rfl ?_
  refine o_as rfl rfl ?_
  refine o_nil (q_then (c_seq (c_seq (c_region ?_))))
  refine o_mv rfl rfl ?_
  refine o_p (p_ne rfl rfl) ?_
  refine o_nil (q_then ?_)
  refine c_cond rfl (fun hc15 => ?_) (fun hc15 => ?_)
  ·simp only [bne_iff_ne, ne_eq] at hc15
   refine c_seq (c_region ?_)
   refine o_as rfl rfl ?_
   refine o_nil (q_then (c_ret ?_))
   refine q_then_ret ?_
   refine q_end0 (v := .bool true) (rt1 rfl (r_tmp rfl)) (i := 5) rfl ?_
   exact rfl
  ·simp only [bne_eq_false_iff_eq] at hc15
   have hf := hc15
   have hB := Sk.addErr_iff.1 hc15
   have m3 := hB.m1
   have m4 := hB.m2
   have hlaw := Sk.adds_law he hf
   refine c_skip (q_then (c_seq (c_region ?_)))
   refine o_p (p_load_agg (i := 4) (vs := [Vi s.wide, .slice as_0 s.counts.length cs_0.n]) rfl rfl sh24 rfl rfl) ?_
   refine o_mv rfl rfl ?_
   refine o_mv rfl rfl ?_
   refine o_mv rfl rfl ?_
   refine o_p (p_addb rfl rfl (by omega)) ?_
   refine o_callM rfl (sadd_ok s as_0 cs_0 key (a + b)) hf13 (fun w hw => (rd_baseN (i := 5) rfl hs_0) w hw) rfl (fun _ _ _ _ ha hA => SlON.agree ha hA) ?_
   rintro ⟨a18, c19⟩ S16
   refine o_know (fun w hw => own_lenN (i := 0) (T := tInt) hw rfl) (fun hlr20 => ?_)
   refine o_mv rfl rfl ?_
   refine o_ex rfl rfl rfl ?_
   refine o_ex rfl rfl rfl ?_
   refine o_alloc ze24 rfl (fun B21 => ?_)
   refine o_storeN (i := 0) (vs := [Vi ((Sk.add s key (a + b)).wide), .slice a18 ((Sk.add s key (a + b)).counts).length c19.n]) (cs' := [Vi ((Sk.add s key (a + b)).wide), .slice a18 ((Sk.add s key (a + b)).counts).length c19.n]) rfl rfl rfl sz24 rfl rfl rfl rfl ?_
   refine o_as rfl rfl ?_
   refine o_nil (q_then (c_seq (c_region ?_)))
   refine o_p (p_load_agg (i := 6) (vs := [Vi s.wide, .slice as_0 s.counts.length cs_0.n]) rfl rfl sh24 rfl rfl) ?_
   refine o_call0 (v := .tuple #[Vi (Sk.total s), Vi (Sk.check s)]) rfl (stotal_ok s as_0 cs_0) hf17 (fun w hw => (rd_baseN (i := 7) rfl hs_0) w hw) rfl ?_
   refine o_mv rfl rfl ?_
   refine o_ex rfl rfl rfl ?_
   refine o_ex rfl rfl rfl ?_
   refine o_as rfl rfl ?_
   refine o_as rfl rfl ?_
   refine o_nil (q_then (c_seq (c_region ?_)))
   refine o_p (p_load_agg (i := 2) (vs := [Vi ((Sk.add (Sk.add s key a) key b).wide), .slice a11 ((Sk.add (Sk.add s key a) key b).counts).length c12.n]) rfl rfl sh24 rfl rfl) ?_
   refine o_call0 (v := .tuple #[Vi (Sk.total (Sk.add (Sk.add s key a) key b)), Vi (Sk.check (Sk.add (Sk.add s key a) key b))]) rfl (stotal_ok (Sk.add (Sk.add s key a) key b) a11 c12) hf17 (fun w hw => (rd_ownN (i := 3) rfl) w hw) rfl ?_
   refine o_mv rfl rfl ?_
   refine o_ex rfl rfl rfl ?_
   refine o_ex rfl rfl rfl ?_
   refine o_as rfl rfl ?_
   refine o_as rfl rfl ?_
   refine o_nil (q_then (c_seq (c_region ?_)))
   refine o_mv rfl rfl ?_
   refine o_p (p_eq rfl rfl) ?_
   refine o_mv rfl rfl ?_
   refine o_and (p := 68) 5 (decide (1099511627776 < (a + b))) ?_ ?_ ?_
   ·intro hb22 hk
    simp only [beq_iff_eq] at hb22
    refine o_unguard 63 rfl rfl ?_
    refine o_mv rfl rfl ?_
    refine o_unguard 63 rfl rfl ?_
    refine o_mv rfl rfl ?_
    refine o_unguard 63 rfl rfl ?_
    refine o_p (p_addb rfl rfl (by omega)) ?_
    refine o_unguard 63 rfl rfl ?_
    refine o_p (p_gt rfl rfl) ?_
    refine o_pt rfl rfl rfl ?_
    exact o_sub (sr (Sub.skip rfl (Sub.skip rfl (Sub.skip rfl (Sub.skip rfl (Sub.skip rfl (Sub.skip rfl (Sub.refl _)))))))) hk
   ·intro hb22 hk
    refine o_guard_no rfl 63 rfl rfl rfl rfl rfl ?_
    refine o_guard_no rfl 63 rfl rfl rfl rfl rfl ?_
    refine o_guard_no rfl 63 rfl rfl rfl rfl rfl ?_
    refine o_guard_no rfl 63 rfl rfl rfl rfl rfl ?_
    refine o_pf rfl rfl rfl ?_
    exact o_sub (sr (Sub.skip rfl (Sub.skip rfl (Sub.skip rfl (Sub.skip rfl (Sub.skip rfl (Sub.skip rfl (Sub.refl _)))))))) hk
   refine o_mv rfl rfl ?_
   refine o_or (p := 94) 25 ((((((Sk.addErr s key (a + b)) == 0) && (decide ((Sk.add s key (a + b)) = (Sk.add (Sk.add s key a) key b)))) && ((Sk.check s) == 0)) && ((Sk.check (Sk.add (Sk.add s key a) key b)) == 0)) && ((Sk.total (Sk.add (Sk.add s key a) key b)) == (((Sk.total s) + a) + b))) ?_ ?_ ?_
   ·intro hb23 hk
    simp only [Bool.and_eq_false_iff, beq_eq_false_iff_ne, ne_eq, decide_eq_false_iff_not, Int.not_lt] at hb23
    refine o_unguard 69 rfl rfl ?_
    refine o_mv rfl rfl ?_
    refine o_unguard 69 rfl rfl ?_
    refine o_p (p_eq rfl rfl) ?_
    refine o_unguard 69 rfl rfl ?_
    refine o_mv rfl rfl ?_
    refine o_and (p := 76) 4 (decide ((Sk.add s key (a + b)) = (Sk.add (Sk.add s key a) key b))) ?_ ?_ ?_
    ·intro hb24 hk
     simp only [beq_iff_eq] at hb24
     refine o_unguard 72 rfl rfl ?_
     refine o_p (p_load_agg (i := 0) (vs := [Vi ((Sk.add s key (a + b)).wide), .slice a18 ((Sk.add s key (a + b)).counts).length c19.n]) rfl rfl sh24 rfl rfl) ?_
     refine o_unguard 72 rfl rfl ?_
     refine o_p (p_load_agg (i := 2) (vs := [Vi ((Sk.add (Sk.add s key a) key b).wide), .slice a11 ((Sk.add (Sk.add s key a) key b).counts).length c12.n]) rfl rfl sh24 rfl rfl) ?_
     refine o_unguard 72 rfl rfl ?_
     refine o_call0 (v := .bool (decide ((Sk.add s key (a + b)) = (Sk.add (Sk.add s key a) key b)))) rfl (sameSketch_ok (Sk.add s key (a + b)) a18 c19 (Sk.add (Sk.add s key a) key b) a11 c12) hf27 (fun w hw => ⟨(rd_ownN (i := 1) rfl) w hw, (rd_ownN (i := 3) rfl) w hw⟩) rfl ?_
     refine o_unguard 69 rfl rfl ?_
     refine o_pt rfl rfl rfl ?_
     exact o_sub (sr (Sub.skip rfl (Sub.skip rfl (Sub.skip rfl (Sub.skip rfl (Sub.skip rfl (Sub.refl _))))))) hk
    ·intro hb24 hk
     refine o_guard_no rfl 72 rfl rfl rfl rfl rfl ?_
     refine o_guard_no rfl 72 rfl rfl rfl rfl rfl ?_
     refine o_guard_no rfl 72 rfl rfl rfl rfl rfl ?_
     refine o_unguard 69 rfl rfl ?_
     refine o_pf rfl rfl rfl ?_
     exact o_sub (sr (Sub.skip rfl (Sub.skip rfl (Sub.skip rfl (Sub.skip rfl (Sub.skip rfl (Sub.refl _))))))) hk
    refine o_unguard 69 rfl rfl ?_
    refine o_mv rfl rfl ?_
    refine o_and (p := 80) 3 ((Sk.check s) == 0) ?_ ?_ ?_
    ·intro hb25 hk
     simp only [Bool.and_eq_true, beq_iff_eq, decide_eq_true_eq] at hb25
     refine o_unguard 77 rfl rfl ?_
     refine o_mv rfl rfl ?_
     refine o_unguard 77 rfl rfl ?_
     refine o_p (p_eq rfl rfl) ?_
     refine o_unguard 69 rfl rfl ?_
     refine o_pt rfl rfl rfl ?_
     exact o_sub (sr (Sub.skip rfl (Sub.skip rfl (Sub.skip rfl (Sub.skip rfl (Sub.refl _)))))) hk
    ·intro hb25 hk
     refine o_guard_no rfl 77 rfl rfl rfl rfl rfl ?_
     refine o_guard_no rfl 77 rfl rfl rfl rfl rfl ?_
     refine o_unguard 69 rfl rfl ?_
     refine o_pf rfl rfl rfl ?_
     exact o_sub (sr (Sub.skip rfl (Sub.skip rfl (Sub.skip rfl (Sub.skip rfl (Sub.refl _)))))) hk
    refine o_unguard 69 rfl rfl ?_
    refine o_mv rfl rfl ?_
    refine o_and (p := 84) 3 ((Sk.check (Sk.add (Sk.add s key a) key b)) == 0) ?_ ?_ ?_
    ·intro hb26 hk
     simp only [Bool.and_eq_true, beq_iff_eq, decide_eq_true_eq] at hb26
     refine o_unguard 81 rfl rfl ?_
     refine o_mv rfl rfl ?_
     refine o_unguard 81 rfl rfl ?_
     refine o_p (p_eq rfl rfl) ?_
     refine o_unguard 69 rfl rfl ?_
     refine o_pt rfl rfl rfl ?_
     exact o_sub (sr (Sub.skip rfl (Sub.skip rfl (Sub.skip rfl (Sub.skip rfl (Sub.refl _)))))) hk
    ·intro hb26 hk
     refine o_guard_no rfl 81 rfl rfl rfl rfl rfl ?_
     refine o_guard_no rfl 81 rfl rfl rfl rfl rfl ?_
     refine o_unguard 69 rfl rfl ?_
     refine o_pf rfl rfl rfl ?_
     exact o_sub (sr (Sub.skip rfl (Sub.skip rfl (Sub.skip rfl (Sub.skip rfl (Sub.refl _)))))) hk
    refine o_unguard 69 rfl rfl ?_
    refine o_mv rfl rfl ?_
    refine o_and (p := 93) 8 ((Sk.total (Sk.add (Sk.add s key a) key b)) == (((Sk.total s) + a) + b)) ?_ ?_ ?_
    ·intro hb27 hk
     simp only [Bool.and_eq_true, beq_iff_eq, decide_eq_true_eq] at hb27
     refine o_unguard 85 rfl rfl ?_
     refine o_mv rfl rfl ?_
     refine o_unguard 85 rfl rfl ?_
     refine o_mv rfl rfl ?_
     refine o_unguard 85 rfl rfl ?_
     refine o_mv rfl rfl ?_
     refine o_unguard 85 rfl rfl ?_
     refine o_p (p_addb rfl rfl (by omega)) ?_
     refine o_unguard 85 rfl rfl ?_
     refine o_mv rfl rfl ?_
     refine o_unguard 85 rfl rfl ?_
     refine o_p (p_addb rfl rfl (by omega)) ?_
     refine o_unguard 85 rfl rfl ?_
     refine o_p (p_eq rfl rfl) ?_
     refine o_unguard 69 rfl rfl ?_
     refine o_pt rfl rfl rfl ?_
     exact o_sub (sr (Sub.skip rfl (Sub.skip rfl (Sub.skip rfl (Sub.skip rfl (Sub.skip rfl (Sub.skip rfl (Sub.skip rfl (Sub.skip rfl (Sub.skip rfl (Sub.refl _))))))))))) hk
    ·intro hb27 hk
     refine o_guard_no rfl 85 rfl rfl rfl rfl rfl ?_
     refine o_guard_no rfl 85 rfl rfl rfl rfl rfl ?_
     refine o_guard_no rfl 85 rfl rfl rfl rfl rfl ?_
     refine o_guard_no rfl 85 rfl rfl rfl rfl rfl ?_
     refine o_guard_no rfl 85 rfl rfl rfl rfl rfl ?_
     refine o_guard_no rfl 85 rfl rfl rfl rfl rfl ?_
     refine o_guard_no rfl 85 rfl rfl rfl rfl rfl ?_
     refine o_unguard 69 rfl rfl ?_
     refine o_pf rfl rfl rfl ?_
     exact o_sub (sr (Sub.skip rfl (Sub.skip rfl (Sub.skip rfl (Sub.skip rfl (Sub.skip rfl (Sub.skip rfl (Sub.skip rfl (Sub.skip rfl (Sub.skip rfl (Sub.refl _))))))))))) hk
    refine o_pf rfl rfl rfl ?_
    exact o_sub (sr (Sub.skip rfl (Sub.skip rfl (Sub.skip rfl (Sub.skip rfl (Sub.skip rfl (Sub.skip rfl (Sub.skip rfl (Sub.skip rfl (Sub.refl _)))))))))) hk
   ·intro hb23 hk
    refine o_guard_no rfl 69 rfl rfl rfl rfl rfl ?_
    refine o_guard_no rfl 69 rfl rfl rfl rfl rfl ?_
    refine o_guard_no rfl 69 rfl rfl rfl rfl rfl ?_
    refine o_guard_no rfl 72 rfl rfl rfl rfl rfl ?_
    refine o_guard_no rfl 72 rfl rfl rfl rfl rfl ?_
    refine o_guard_no rfl 72 rfl rfl rfl rfl rfl ?_
    refine o_guard_no rfl 69 rfl rfl rfl rfl rfl ?_
    refine o_guard_no rfl 69 rfl rfl rfl rfl rfl ?_
    refine o_guard_no rfl 77 rfl rfl rfl rfl rfl ?_
    refine o_guard_no rfl 77 rfl rfl rfl rfl rfl ?_
    refine o_guard_no rfl 69 rfl rfl rfl rfl rfl ?_
    refine o_guard_no rfl 69 rfl rfl rfl rfl rfl ?_
    refine o_guard_no rfl 81 rfl rfl rfl rfl rfl ?_
    refine o_guard_no rfl 81 rfl rfl rfl rfl rfl ?_
    refine o_guard_no rfl 69 rfl rfl rfl rfl rfl ?_
    refine o_guard_no rfl 69 rfl rfl rfl rfl rfl ?_
    refine o_guard_no rfl 85 rfl rfl rfl rfl rfl ?_
    refine o_guard_no rfl 85 rfl rfl rfl rfl rfl ?_
    refine o_guard_no rfl 85 rfl rfl rfl rfl rfl ?_
    refine o_guard_no rfl 85 rfl rfl rfl rfl rfl ?_
    refine o_guard_no rfl 85 rfl rfl rfl rfl rfl ?_
    refine o_guard_no rfl 85 rfl rfl rfl rfl rfl ?_
    refine o_guard_no rfl 85 rfl rfl rfl rfl rfl ?_
    refine o_guard_no rfl 69 rfl rfl rfl rfl rfl ?_
    refine o_pt rfl rfl rfl ?_
    exact o_sub (sr (Sub.skip rfl (Sub.skip rfl (Sub.skip rfl (Sub.skip rfl (Sub.skip rfl (Sub.skip rfl (Sub.skip rfl (Sub.skip rfl (Sub.skip rfl (Sub.skip rfl (Sub.skip rfl (Sub.skip rfl (Sub.skip rfl (Sub.skip rfl (Sub.skip rfl (Sub.skip rfl (Sub.skip rfl (Sub.skip rfl (Sub.skip rfl (Sub.skip rfl (Sub.skip rfl (Sub.skip rfl (Sub.skip rfl (Sub.skip rfl (Sub.skip rfl (Sub.skip rfl (Sub.refl _)))))))))))))))))))))))))))) hk
   refine o_as rfl rfl ?_
   refine o_nil (q_then (c_ret ?_))
   have hr0 : (((((Sk.addErr s key (a + b)) == 3) && decide (1099511627776 < (a + b))) || ((((((Sk.addErr s key (a + b)) == 0) && (decide ((Sk.add s key (a + b)) = (Sk.add (Sk.add s key a) key b)))) && ((Sk.check s) == 0)) && ((Sk.check (Sk.add (Sk.add s key a) key b)) == 0)) && ((Sk.total (Sk.add (Sk.add s key a) key b)) == (((Sk.total s) + a) + b)))) : Bool) = true := by
    first | rfl | (rw [Sk.add_bad hbad]; rfl) | (rcases hlaw with ⟨l1, l2⟩ | ⟨l1, l2, l3, l4, l5, l6⟩ <;> simp_all; done) | (rcases hlaw with ⟨l1, l2⟩ | ⟨l1, l2, l3, l4, l5, l6⟩; simp [l1, l2]; simp [l2, l3, l4, l5, l6])
   refine q_end0 (v := .bool ((((Sk.addErr s key (a + b)) == 3) && decide (1099511627776 < (a + b))) || ((((((Sk.addErr s key (a + b)) == 0) && (decide ((Sk.add s key (a + b)) = (Sk.add (Sk.add s key a) key b)))) && ((Sk.check s) == 0)) && ((Sk.check (Sk.add (Sk.add s key a) key b)) == 0)) && ((Sk.total (Sk.add (Sk.add s key a) key b)) == (((Sk.total s) + a) + b))))) (rt1 rfl (r_tmp rfl)) (i := 7) rfl ?_
   exact (by have hcc := congrArg (fun (y0 : Bool) => (.bool y0 : Value)) hr0; exact hcc)
end Go.Proofs.Ytnmbkopnopaigaa
