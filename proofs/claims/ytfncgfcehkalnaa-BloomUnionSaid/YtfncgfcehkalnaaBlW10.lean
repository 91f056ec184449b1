/- The walks, printed by a program from the translation and a specification. -/
import Derived.Test.YtfncgfcehkalnaaBlF
import Derived.Test.YtfncgfcehkalnaaBlLaw
import Derived.Test.YtfncgfcehkalnaaBlW7
import Derived.Test.YtfncgfcehkalnaaBlLaw3
namespace Go.Proofs.Ytfncgfcehkalnaa
open Go.Sx Go.RowKit
set_option maxHeartbeats 8000000 in
set_option maxRecDepth 100000 in
theorem bloomUnion_ok (a : DFilter) (aa_0 : Option Addr) (ca_0 : Nat) (b : DFilter) (ab_0 : Option Addr) (cb_0 : Nat) (s : ByteArray) (t : ByteArray) : Fn0 Try.prog 5 [.agg #[Vi a.size, Vi a.hashes, .slice aa_0 a.set.length ca_0], .agg #[Vi b.size, Vi b.hashes, .slice ab_0 b.set.length cb_0], .string s, .string t] (fun w => Rd tInt w aa_0 ca_0 a.set ∧ Rd tInt w ab_0 cb_0 b.set) (.bool true) := by
 refine fn0 (nt := 105) (F0 := [(0, .agg #[Vi a.size, Vi a.hashes, .slice aa_0 a.set.length ca_0]), (1, .agg #[Vi b.size, Vi b.hashes, .slice ab_0 b.set.length cb_0]), (2, .string s), (3, .string t)]) Try.func5 rfl Try.ntmps5 rfl rfl (fun w0 hpre => ?_)
 obtain ⟨ha_0, hb_0⟩ := hpre
 have hlha_0 := ha_0.2.1
 have hlhb_0 := hb_0.2.1
 refine c_seq (c_region ?_)
 refine o_box (v := .agg #[Vi a.size, Vi a.hashes, .slice aa_0 a.set.length ca_0]) rfl rfl (fun B1 => ?_)
 refine o_box (v := .agg #[Vi b.size, Vi b.hashes, .slice ab_0 b.set.length cb_0]) rfl rfl (fun B2 => ?_)
 refine o_as rfl rfl ?_
 refine o_nil (q_then (c_seq (c_region ?_)))
 refine o_p (p_load_agg (i := 1) (vs := [Vi a.size, Vi a.hashes, .slice aa_0 a.set.length ca_0]) rfl rfl sh24 rfl rfl) ?_
 refine o_p (p_load_agg (i := 0) (vs := [Vi b.size, Vi b.hashes, .slice ab_0 b.set.length cb_0]) rfl rfl sh24 rfl rfl) ?_
 refine o_callM rfl (bunion_ok a aa_0 ca_0 b ab_0 cb_0) hf13 (fun w hw => ⟨(rd_base (i := 2) rfl ha_0) w hw, (rd_base (i := 2) rfl hb_0) w hw⟩) rfl (fun _ _ _ _ ha hA => SlO.agree ha hA) ?_
 rintro ⟨a5, c6⟩ S3
 refine o_know (fun w hw => own_len (i := 0) (T := tInt) hw rfl) (fun hlr7 => ?_)
 refine o_mv rfl rfl ?_
 refine o_ex rfl rfl rfl ?_
 refine o_ex rfl rfl rfl ?_
 refine o_alloc ze24 rfl (fun B8 => ?_)
 refine o_storeN (i := 0) (vs := [Vi ((Bl.uni a b).size), Vi ((Bl.uni a b).hashes), .slice a5 ((Bl.uni a b).set).length c6]) (cs' := [Vi ((Bl.uni a b).size), Vi ((Bl.uni a b).hashes), .slice a5 ((Bl.uni a b).set).length c6]) rfl rfl rfl sz24 rfl rfl rfl rfl ?_
 refine o_as rfl rfl ?_
 refine o_nil (q_then (c_seq (c_seq (c_region ?_))))
 refine o_call0 (v := .bool true) rfl (bloomBegun_ok ) hf20 (fun _ _ => trivial) rfl ?_
 refine o_p (p_not (b := true) rfl) ?_
 refine o_nil (q_then ?_)
 refine c_false rfl ?_
 refine c_skip (q_then (c_seq (c_seq (c_region ?_))))
 refine o_mv rfl rfl ?_
 refine o_p (p_ne rfl rfl) ?_
 refine o_nil (q_then ?_)
 refine c_cond rfl (fun hc9 => ?_) (fun hc9 => ?_)
 ·simp only [bne_iff_ne, ne_eq] at hc9
  have hbad := hc9
  refine c_seq (c_region ?_)
  refine o_p (p_load_agg (i := 0) (vs := [Vi ((Bl.uni a b).size), Vi ((Bl.uni a b).hashes), .slice a5 ((Bl.uni a b).set).length c6]) rfl rfl sh24 rfl rfl) ?_
  refine o_p (p_build (cells := [Vi 0, Vi 0, .slice none 0 0]) fp24 ze24 rfl rfl) ?_
  refine o_call0 (v := .bool (decide ((Bl.uni a b) = (⟨0, 0, []⟩ : DFilter)))) rfl (sameFilter_ok (Bl.uni a b) a5 c6 (⟨0, 0, []⟩ : DFilter) none 0) hf22 (fun w hw => ⟨(rd_own (i := 1) rfl) w hw, rd_nil w hw⟩) rfl ?_
  refine o_as rfl rfl ?_
  refine o_nil (q_then (c_ret ?_))
  refine q_then_ret ?_
  have hr0 : ((decide ((Bl.uni a b) = (⟨0, 0, []⟩ : DFilter))) : Bool) = true := by
   first | rfl | exact Bl.uni_bad hbad | (obtain ⟨q1, q2, q3, q4⟩ := h4; simp [q1, q2, q3, q4])
  refine q_end0 (v := .bool (decide ((Bl.uni a b) = (⟨0, 0, []⟩ : DFilter)))) (rt1 rfl (r_tmp rfl)) (i := 4) rfl ?_
  exact (by have hcc := congrArg (fun (y0 : Bool) => (.bool y0 : Value)) hr0; exact hcc)
 ·simp only [bne_eq_false_iff_eq] at hc9
  have hue := hc9
  obtain ⟨u1, u2, u3⟩ := Bl.union1 hc9 s t
  refine c_skip (q_then (c_seq (c_region ?_)))
  refine o_p (p_load_agg (i := 3) (vs := [Vi a.size, Vi a.hashes, .slice aa_0 a.set.length ca_0]) rfl rfl sh24 rfl rfl) ?_
  refine o_mv rfl rfl ?_
  refine o_callM rfl (badd_ok a aa_0 ca_0 s) hf11 (fun w hw => (rd_base (i := 4) rfl ha_0) w hw) rfl (fun _ _ _ _ ha hA => SlO.agree ha hA) ?_
  rintro ⟨a12, c13⟩ S10
  refine o_know (fun w hw => own_len (i := 0) (T := tInt) hw rfl) (fun hlr14 => ?_)
  refine o_mv rfl rfl ?_
  refine o_ex rfl rfl rfl ?_
  refine o_ex rfl rfl rfl ?_
  refine o_alloc ze24 rfl (fun B15 => ?_)
  refine o_storeN (i := 0) (vs := [Vi ((Bl.add a s).size), Vi ((Bl.add a s).hashes), .slice a12 ((Bl.add a s).set).length c13]) (cs' := [Vi ((Bl.add a s).size), Vi ((Bl.add a s).hashes), .slice a12 ((Bl.add a s).set).length c13]) rfl rfl rfl sz24 rfl rfl rfl rfl ?_
  refine o_as rfl rfl ?_
  refine o_nil (q_then (c_seq (c_region ?_)))
  refine o_p (p_load_agg (i := 2) (vs := [Vi ((Bl.uni a b).size), Vi ((Bl.uni a b).hashes), .slice a5 ((Bl.uni a b).set).length c6]) rfl rfl sh24 rfl rfl) ?_
  refine o_mv rfl rfl ?_
  refine o_callM rfl (badd_ok (Bl.uni a b) a5 c6 s) hf11 (fun w hw => (rd_own (i := 3) rfl) w hw) rfl (fun _ _ _ _ ha hA => SlO.agree ha hA) ?_
  rintro ⟨a18, c19⟩ S16
  refine o_know (fun w hw => own_len (i := 0) (T := tInt) hw rfl) (fun hlr20 => ?_)
  refine o_mv rfl rfl ?_
  refine o_ex rfl rfl rfl ?_
  refine o_ex rfl rfl rfl ?_
  refine o_alloc ze24 rfl (fun B21 => ?_)
  refine o_storeN (i := 0) (vs := [Vi ((Bl.add (Bl.uni a b) s).size), Vi ((Bl.add (Bl.uni a b) s).hashes), .slice a18 ((Bl.add (Bl.uni a b) s).set).length c19]) (cs' := [Vi ((Bl.add (Bl.uni a b) s).size), Vi ((Bl.add (Bl.uni a b) s).hashes), .slice a18 ((Bl.add (Bl.uni a b) s).set).length c19]) rfl rfl rfl sz24 rfl rfl rfl rfl ?_
  refine o_as rfl rfl ?_
  refine o_nil (q_then (c_seq (c_region ?_)))
  refine o_p (p_load_agg (i := 6) (vs := [Vi b.size, Vi b.hashes, .slice ab_0 b.set.length cb_0]) rfl rfl sh24 rfl rfl) ?_
  refine o_mv rfl rfl ?_
  refine o_call0 (v := .tuple #[.bool (Bl.may b t), Vi (Bl.keyErr b t)]) rfl (bmay_ok b ab_0 cb_0 t) hf12 (fun w hw => (rd_base (i := 8) rfl hb_0) w hw) rfl ?_
  refine o_mv rfl rfl ?_
  refine o_ex rfl rfl rfl ?_
  refine o_ex rfl rfl rfl ?_
  refine o_as rfl rfl ?_
  refine o_as rfl rfl ?_
  refine o_nil (q_then (c_seq (c_region ?_)))
  refine o_p (p_load_agg (i := 4) (vs := [Vi ((Bl.uni a b).size), Vi ((Bl.uni a b).hashes), .slice a5 ((Bl.uni a b).set).length c6]) rfl rfl sh24 rfl rfl) ?_
  refine o_mv rfl rfl ?_
  refine o_call0 (v := .tuple #[.bool (Bl.may (Bl.uni a b) t), Vi (Bl.keyErr (Bl.uni a b) t)]) rfl (bmay_ok (Bl.uni a b) a5 c6 t) hf12 (fun w hw => (rd_own (i := 5) rfl) w hw) rfl ?_
  refine o_mv rfl rfl ?_
  refine o_ex rfl rfl rfl ?_
  refine o_ex rfl rfl rfl ?_
  refine o_as rfl rfl ?_
  refine o_as rfl rfl ?_
  refine o_nil (q_then (c_seq (c_seq (c_region ?_))))
  refine o_mv rfl rfl ?_
  refine o_mv rfl rfl ?_
  refine o_p (p_ne rfl rfl) ?_
  refine o_mv rfl rfl ?_
  refine o_or (p := 67) 4 ((Bl.keyErr b t) != (Bl.keyErr (Bl.uni a b) t)) ?_ ?_ ?_
  ·intro hb22 hk
   simp only [bne_eq_false_iff_eq] at hb22
   refine o_unguard 63 rfl rfl ?_
   refine o_mv rfl rfl ?_
   refine o_unguard 63 rfl rfl ?_
   refine o_mv rfl rfl ?_
   refine o_unguard 63 rfl rfl ?_
   refine o_p (p_ne rfl rfl) ?_
   refine o_pf rfl rfl rfl ?_
   exact o_sub (sr (Sub.skip rfl (Sub.skip rfl (Sub.skip rfl (Sub.skip rfl (Sub.skip rfl (Sub.refl _))))))) hk
  ·intro hb22 hk
   refine o_guard_no rfl 63 rfl rfl rfl rfl rfl ?_
   refine o_guard_no rfl 63 rfl rfl rfl rfl rfl ?_
   refine o_guard_no rfl 63 rfl rfl rfl rfl rfl ?_
   refine o_pt rfl rfl rfl ?_
   exact o_sub (sr (Sub.skip rfl (Sub.skip rfl (Sub.skip rfl (Sub.skip rfl (Sub.skip rfl (Sub.refl _))))))) hk
  refine o_mv rfl rfl ?_
  refine o_or (p := 74) 6 ((Bl.may b t) && (!(Bl.may (Bl.uni a b) t))) ?_ ?_ ?_
  ·intro hb23 hk
   simp only [Bool.or_eq_false_iff, bne_eq_false_iff_eq] at hb23
   refine o_unguard 68 rfl rfl ?_
   refine o_mv rfl rfl ?_
   refine o_unguard 68 rfl rfl ?_
   refine o_mv rfl rfl ?_
   refine o_and (p := 73) 3 (!(Bl.may (Bl.uni a b) t)) ?_ ?_ ?_
   ·intro hb24 hk
    skip
    refine o_unguard 70 rfl rfl ?_
    refine o_mv rfl rfl ?_
    refine o_unguard 70 rfl rfl ?_
    refine o_p (p_not (b := (Bl.may (Bl.uni a b) t)) rfl) ?_
    refine o_unguard 68 rfl rfl ?_
    refine o_pt rfl rfl rfl ?_
    exact o_sub (sr (Sub.skip rfl (Sub.skip rfl (Sub.skip rfl (Sub.skip rfl (Sub.refl _)))))) hk
   ·intro hb24 hk
    refine o_guard_no rfl 70 rfl rfl rfl rfl rfl ?_
    refine o_guard_no rfl 70 rfl rfl rfl rfl rfl ?_
    refine o_unguard 68 rfl rfl ?_
    refine o_pf rfl rfl rfl ?_
    exact o_sub (sr (Sub.skip rfl (Sub.skip rfl (Sub.skip rfl (Sub.skip rfl (Sub.refl _)))))) hk
   refine o_pf rfl rfl rfl ?_
   exact o_sub (sr (Sub.skip rfl (Sub.skip rfl (Sub.skip rfl (Sub.skip rfl (Sub.refl _)))))) hk
  ·intro hb23 hk
   refine o_guard_no rfl 68 rfl rfl rfl rfl rfl ?_
   refine o_guard_no rfl 68 rfl rfl rfl rfl rfl ?_
   refine o_guard_no rfl 70 rfl rfl rfl rfl rfl ?_
   refine o_guard_no rfl 70 rfl rfl rfl rfl rfl ?_
   refine o_guard_no rfl 68 rfl rfl rfl rfl rfl ?_
   refine o_pt rfl rfl rfl ?_
   exact o_sub (sr (Sub.skip rfl (Sub.skip rfl (Sub.skip rfl (Sub.skip rfl (Sub.skip rfl (Sub.skip rfl (Sub.skip rfl (Sub.refl _))))))))) hk
  refine o_nil (q_then ?_)
  refine c_cond rfl (fun hc25 => ?_) (fun hc25 => ?_)
  ·simp only [Bool.or_eq_true, bne_iff_ne, ne_eq, Bool.and_eq_true, Bool.not_eq_true'] at hc25
   exfalso; have hq := hc25
   rcases hq with (h9 | h9) | h9 <;> first | exact h9 u1 | exact h9 u2 | (simp_all; done) | omega
  ·simp only [Bool.or_eq_false_iff, bne_eq_false_iff_eq, Bool.and_eq_false_iff, Bool.not_eq_false'] at hc25
   refine c_skip (q_then (c_seq (c_seq (c_region ?_))))
   refine o_mv rfl rfl ?_
   refine o_p (p_ne rfl rfl) ?_
   refine o_nil (q_then ?_)
   refine c_cond rfl (fun hc26 => ?_) (fun hc26 => ?_)
   ·simp only [bne_iff_ne, ne_eq] at hc26
    refine c_seq (c_region ?_)
    refine o_as rfl rfl ?_
    refine o_nil (q_then (c_ret ?_))
    refine q_then_ret ?_
    refine q_end0 (v := .bool true) (rt1 rfl (r_tmp rfl)) (i := 8) rfl ?_
    exact rfl
   ·simp only [bne_eq_false_iff_eq] at hc26
    have h4 := Bl.union2 hue hc26
    refine c_skip (q_then (c_seq (c_region ?_)))
    refine o_p (p_load_agg (i := 2) (vs := [Vi ((Bl.add a s).size), Vi ((Bl.add a s).hashes), .slice a12 ((Bl.add a s).set).length c13]) rfl rfl sh24 rfl rfl) ?_
    refine o_p (p_load_agg (i := 6) (vs := [Vi b.size, Vi b.hashes, .slice ab_0 b.set.length cb_0]) rfl rfl sh24 rfl rfl) ?_
    refine o_callM rfl (bunion_ok (Bl.add a s) a12 c13 b ab_0 cb_0) hf13 (fun w hw => ⟨(rd_own (i := 3) rfl) w hw, (rd_base (i := 8) rfl hb_0) w hw⟩) rfl (fun _ _ _ _ ha hA => SlO.agree ha hA) ?_
    rintro ⟨a29, c30⟩ S27
    refine o_know (fun w hw => own_len (i := 0) (T := tInt) hw rfl) (fun hlr31 => ?_)
    refine o_mv rfl rfl ?_
    refine o_ex rfl rfl rfl ?_
    refine o_ex rfl rfl rfl ?_
    refine o_alloc ze24 rfl (fun B32 => ?_)
    refine o_storeN (i := 0) (vs := [Vi ((Bl.uni (Bl.add a s) b).size), Vi ((Bl.uni (Bl.add a s) b).hashes), .slice a29 ((Bl.uni (Bl.add a s) b).set).length c30]) (cs' := [Vi ((Bl.uni (Bl.add a s) b).size), Vi ((Bl.uni (Bl.add a s) b).hashes), .slice a29 ((Bl.uni (Bl.add a s) b).set).length c30]) rfl rfl rfl sz24 rfl rfl rfl rfl ?_
    refine o_as rfl rfl ?_
    refine o_nil (q_then (c_seq (c_region ?_)))
    refine o_p (p_load_agg (i := 8) (vs := [Vi b.size, Vi b.hashes, .slice ab_0 b.set.length cb_0]) rfl rfl sh24 rfl rfl) ?_
    refine o_p (p_load_agg (i := 4) (vs := [Vi ((Bl.add a s).size), Vi ((Bl.add a s).hashes), .slice a12 ((Bl.add a s).set).length c13]) rfl rfl sh24 rfl rfl) ?_
    refine o_callM rfl (bunion_ok b ab_0 cb_0 (Bl.add a s) a12 c13) hf13 (fun w hw => ⟨(rd_base (i := 10) rfl hb_0) w hw, (rd_own (i := 5) rfl) w hw⟩) rfl (fun _ _ _ _ ha hA => SlO.agree ha hA) ?_
    rintro ⟨a35, c36⟩ S33
    refine o_know (fun w hw => own_len (i := 0) (T := tInt) hw rfl) (fun hlr37 => ?_)
    refine o_mv rfl rfl ?_
    refine o_ex rfl rfl rfl ?_
    refine o_ex rfl rfl rfl ?_
    refine o_alloc ze24 rfl (fun B38 => ?_)
    refine o_storeN (i := 0) (vs := [Vi ((Bl.uni b (Bl.add a s)).size), Vi ((Bl.uni b (Bl.add a s)).hashes), .slice a35 ((Bl.uni b (Bl.add a s)).set).length c36]) (cs' := [Vi ((Bl.uni b (Bl.add a s)).size), Vi ((Bl.uni b (Bl.add a s)).hashes), .slice a35 ((Bl.uni b (Bl.add a s)).set).length c36]) rfl rfl rfl sz24 rfl rfl rfl rfl ?_
    refine o_as rfl rfl ?_
    refine o_nil (q_then (c_seq (c_region ?_)))
    refine o_mv rfl rfl ?_
    refine o_p (p_eq rfl rfl) ?_
    refine o_mv rfl rfl ?_
    refine o_and (p := 95) 4 (decide ((Bl.uni (Bl.add a s) b) = (Bl.add (Bl.uni a b) s))) ?_ ?_ ?_
    ·intro hb39 hk
     simp only [beq_iff_eq] at hb39
     refine o_unguard 91 rfl rfl ?_
     refine o_p (p_load_agg (i := 2) (vs := [Vi ((Bl.uni (Bl.add a s) b).size), Vi ((Bl.uni (Bl.add a s) b).hashes), .slice a29 ((Bl.uni (Bl.add a s) b).set).length c30]) rfl rfl sh24 rfl rfl) ?_
     refine o_unguard 91 rfl rfl ?_
     refine o_p (p_load_agg (i := 4) (vs := [Vi ((Bl.add (Bl.uni a b) s).size), Vi ((Bl.add (Bl.uni a b) s).hashes), .slice a18 ((Bl.add (Bl.uni a b) s).set).length c19]) rfl rfl sh24 rfl rfl) ?_
     refine o_unguard 91 rfl rfl ?_
     refine o_call0 (v := .bool (decide ((Bl.uni (Bl.add a s) b) = (Bl.add (Bl.uni a b) s)))) rfl (sameFilter_ok (Bl.uni (Bl.add a s) b) a29 c30 (Bl.add (Bl.uni a b) s) a18 c19) hf22 (fun w hw => ⟨(rd_own (i := 3) rfl) w hw, (rd_own (i := 5) rfl) w hw⟩) rfl ?_
     refine o_pt rfl rfl rfl ?_
     exact o_sub (sr (Sub.skip rfl (Sub.skip rfl (Sub.skip rfl (Sub.skip rfl (Sub.skip rfl (Sub.refl _))))))) hk
    ·intro hb39 hk
     refine o_guard_no rfl 91 rfl rfl rfl rfl rfl ?_
     refine o_guard_no rfl 91 rfl rfl rfl rfl rfl ?_
     refine o_guard_no rfl 91 rfl rfl rfl rfl rfl ?_
     refine o_pf rfl rfl rfl ?_
     exact o_sub (sr (Sub.skip rfl (Sub.skip rfl (Sub.skip rfl (Sub.skip rfl (Sub.skip rfl (Sub.refl _))))))) hk
    refine o_mv rfl rfl ?_
    refine o_and (p := 99) 3 ((Bl.uniErr b (Bl.add a s)) == 0) ?_ ?_ ?_
    ·intro hb40 hk
     simp only [Bool.and_eq_true, beq_iff_eq, decide_eq_true_eq] at hb40
     refine o_unguard 96 rfl rfl ?_
     refine o_mv rfl rfl ?_
     refine o_unguard 96 rfl rfl ?_
     refine o_p (p_eq rfl rfl) ?_
     refine o_pt rfl rfl rfl ?_
     exact o_sub (sr (Sub.skip rfl (Sub.skip rfl (Sub.skip rfl (Sub.skip rfl (Sub.refl _)))))) hk
    ·intro hb40 hk
     refine o_guard_no rfl 96 rfl rfl rfl rfl rfl ?_
     refine o_guard_no rfl 96 rfl rfl rfl rfl rfl ?_
     refine o_pf rfl rfl rfl ?_
     exact o_sub (sr (Sub.skip rfl (Sub.skip rfl (Sub.skip rfl (Sub.skip rfl (Sub.refl _)))))) hk
    refine o_mv rfl rfl ?_
    refine o_and (p := 104) 4 (decide ((Bl.uni b (Bl.add a s)) = (Bl.add (Bl.uni a b) s))) ?_ ?_ ?_
    ·intro hb41 hk
     simp only [Bool.and_eq_true, beq_iff_eq, decide_eq_true_eq] at hb41
     refine o_unguard 100 rfl rfl ?_
     refine o_p (p_load_agg (i := 0) (vs := [Vi ((Bl.uni b (Bl.add a s)).size), Vi ((Bl.uni b (Bl.add a s)).hashes), .slice a35 ((Bl.uni b (Bl.add a s)).set).length c36]) rfl rfl sh24 rfl rfl) ?_
     refine o_unguard 100 rfl rfl ?_
     refine o_p (p_load_agg (i := 4) (vs := [Vi ((Bl.add (Bl.uni a b) s).size), Vi ((Bl.add (Bl.uni a b) s).hashes), .slice a18 ((Bl.add (Bl.uni a b) s).set).length c19]) rfl rfl sh24 rfl rfl) ?_
     refine o_unguard 100 rfl rfl ?_
     refine o_call0 (v := .bool (decide ((Bl.uni b (Bl.add a s)) = (Bl.add (Bl.uni a b) s)))) rfl (sameFilter_ok (Bl.uni b (Bl.add a s)) a35 c36 (Bl.add (Bl.uni a b) s) a18 c19) hf22 (fun w hw => ⟨(rd_own (i := 1) rfl) w hw, (rd_own (i := 5) rfl) w hw⟩) rfl ?_
     refine o_pt rfl rfl rfl ?_
     exact o_sub (sr (Sub.skip rfl (Sub.skip rfl (Sub.skip rfl (Sub.skip rfl (Sub.skip rfl (Sub.refl _))))))) hk
    ·intro hb41 hk
     refine o_guard_no rfl 100 rfl rfl rfl rfl rfl ?_
     refine o_guard_no rfl 100 rfl rfl rfl rfl rfl ?_
     refine o_guard_no rfl 100 rfl rfl rfl rfl rfl ?_
     refine o_pf rfl rfl rfl ?_
     exact o_sub (sr (Sub.skip rfl (Sub.skip rfl (Sub.skip rfl (Sub.skip rfl (Sub.skip rfl (Sub.refl _))))))) hk
    refine o_as rfl rfl ?_
    refine o_nil (q_then (c_ret ?_))
    have hr0 : ((((((Bl.uniErr (Bl.add a s) b) == 0) && (decide ((Bl.uni (Bl.add a s) b) = (Bl.add (Bl.uni a b) s)))) && ((Bl.uniErr b (Bl.add a s)) == 0)) && (decide ((Bl.uni b (Bl.add a s)) = (Bl.add (Bl.uni a b) s)))) : Bool) = true := by
     first | rfl | exact Bl.uni_bad hbad | (obtain ⟨q1, q2, q3, q4⟩ := h4; simp [q1, q2, q3, q4])
    refine q_end0 (v := .bool (((((Bl.uniErr (Bl.add a s) b) == 0) && (decide ((Bl.uni (Bl.add a s) b) = (Bl.add (Bl.uni a b) s)))) && ((Bl.uniErr b (Bl.add a s)) == 0)) && (decide ((Bl.uni b (Bl.add a s)) = (Bl.add (Bl.uni a b) s))))) (rt1 rfl (r_tmp rfl)) (i := 12) rfl ?_
    exact (by have hcc := congrArg (fun (y0 : Bool) => (.bool y0 : Value)) hr0; exact hcc)
end Go.Proofs.Ytfncgfcehkalnaa
