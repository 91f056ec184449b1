/- The walks, printed by a program from the translation and a specification. -/
import Derived.Test.YtfncgfcehkalnaaBlF
import Derived.Test.YtfncgfcehkalnaaBlLaw
import Derived.Test.YtfncgfcehkalnaaBlW7
import Derived.Test.YtfncgfcehkalnaaBlLaw3
namespace Go.Proofs.Ytfncgfcehkalnaa
open Go.Sx Go.RowKit
set_option maxHeartbeats 8000000 in
set_option maxRecDepth 100000 in
theorem bloomFold_ok (f : DFilter) (af_0 : Option Addr) (cf_0 : Nat) (s : ByteArray) (t : ByteArray) : Fn0 Try.prog 6 [.agg #[Vi f.size, Vi f.hashes, .slice af_0 f.set.length cf_0], .string s, .string t] (fun w => Rd tInt w af_0 cf_0 f.set) (.bool true) := by
 refine fn0 (nt := 86) (F0 := [(0, .agg #[Vi f.size, Vi f.hashes, .slice af_0 f.set.length cf_0]), (1, .string s), (2, .string t)]) Try.func6 rfl Try.ntmps6 rfl rfl (fun w0 hpre => ?_)
 have hf_0 := hpre
 have hlhf_0 := hf_0.2.1
 refine c_seq (c_region ?_)
 refine o_box (v := .agg #[Vi f.size, Vi f.hashes, .slice af_0 f.set.length cf_0]) rfl rfl (fun B1 => ?_)
 refine o_as rfl rfl ?_
 refine o_nil (q_then (c_seq (c_region ?_)))
 refine o_p (p_load_agg (i := 0) (vs := [Vi f.size, Vi f.hashes, .slice af_0 f.set.length cf_0]) rfl rfl sh24 rfl rfl) ?_
 refine o_callM rfl (bfold_ok f af_0 cf_0) hf14 (fun w hw => (rd_base (i := 1) rfl hf_0) w hw) rfl (fun _ _ _ _ ha hA => SlO.agree ha hA) ?_
 rintro ⟨a4, c5⟩ S2
 refine o_know (fun w hw => own_len (i := 0) (T := tInt) hw rfl) (fun hlr6 => ?_)
 refine o_mv rfl rfl ?_
 refine o_ex rfl rfl rfl ?_
 refine o_ex rfl rfl rfl ?_
 refine o_alloc ze24 rfl (fun B7 => ?_)
 refine o_storeN (i := 0) (vs := [Vi ((Bl.fold f).size), Vi ((Bl.fold f).hashes), .slice a4 ((Bl.fold f).set).length c5]) (cs' := [Vi ((Bl.fold f).size), Vi ((Bl.fold f).hashes), .slice a4 ((Bl.fold f).set).length c5]) rfl rfl rfl sz24 rfl rfl rfl rfl ?_
 refine o_as rfl rfl ?_
 refine o_nil (q_then (c_seq (c_seq (c_region ?_))))
 refine o_call0 (v := .bool true) rfl (bloomBegun_ok ) hf20 (fun _ _ => trivial) rfl ?_
 refine o_p (p_not (b := true) rfl) ?_
 refine o_nil (q_then ?_)
 refine c_false rfl ?_
 refine c_skip (q_then (c_seq (c_seq (c_region ?_))))
 refine o_mv rfl rfl ?_
 refine o_p (p_ne rfl rfl) ?_
 refine o_nil (q_then ?_)
 refine c_cond rfl (fun hc8 => ?_) (fun hc8 => ?_)
 ·simp only [bne_iff_ne, ne_eq] at hc8
  have hbad := hc8
  refine c_seq (c_region ?_)
  refine o_p (p_load_agg (i := 0) (vs := [Vi ((Bl.fold f).size), Vi ((Bl.fold f).hashes), .slice a4 ((Bl.fold f).set).length c5]) rfl rfl sh24 rfl rfl) ?_
  refine o_p (p_build (cells := [Vi 0, Vi 0, .slice none 0 0]) fp24 ze24 rfl rfl) ?_
  refine o_call0 (v := .bool (decide ((Bl.fold f) = (⟨0, 0, []⟩ : DFilter)))) rfl (sameFilter_ok (Bl.fold f) a4 c5 (⟨0, 0, []⟩ : DFilter) none 0) hf22 (fun w hw => ⟨(rd_own (i := 1) rfl) w hw, rd_nil w hw⟩) rfl ?_
  refine o_as rfl rfl ?_
  refine o_nil (q_then (c_ret ?_))
  refine q_then_ret ?_
  have hr0 : ((decide ((Bl.fold f) = (⟨0, 0, []⟩ : DFilter))) : Bool) = true := by
   first | rfl | exact Bl.fold_bad hbad | (rw [u3]; simp; done) | (obtain ⟨q1, q2⟩ := h4; simp [q1, q2])
  refine q_end0 (v := .bool (decide ((Bl.fold f) = (⟨0, 0, []⟩ : DFilter)))) (rt1 rfl (r_tmp rfl)) (i := 3) rfl ?_
  exact (by have hcc := congrArg (fun (y0 : Bool) => (.bool y0 : Value)) hr0; exact hcc)
 ·simp only [bne_eq_false_iff_eq] at hc8
  have hue := hc8
  obtain ⟨u1, u2⟩ := Bl.fold1 hc8 s
  obtain ⟨u3, u4⟩ := Bl.fold1 hc8 t
  refine c_skip (q_then (c_seq (c_region ?_)))
  refine o_p (p_load_agg (i := 2) (vs := [Vi f.size, Vi f.hashes, .slice af_0 f.set.length cf_0]) rfl rfl sh24 rfl rfl) ?_
  refine o_mv rfl rfl ?_
  refine o_call0 (v := .tuple #[.bool (Bl.may f s), Vi (Bl.keyErr f s)]) rfl (bmay_ok f af_0 cf_0 s) hf12 (fun w hw => (rd_base (i := 3) rfl hf_0) w hw) rfl ?_
  refine o_mv rfl rfl ?_
  refine o_ex rfl rfl rfl ?_
  refine o_ex rfl rfl rfl ?_
  refine o_as rfl rfl ?_
  refine o_as rfl rfl ?_
  refine o_nil (q_then (c_seq (c_region ?_)))
  refine o_p (p_load_agg (i := 0) (vs := [Vi ((Bl.fold f).size), Vi ((Bl.fold f).hashes), .slice a4 ((Bl.fold f).set).length c5]) rfl rfl sh24 rfl rfl) ?_
  refine o_mv rfl rfl ?_
  refine o_call0 (v := .tuple #[.bool (Bl.may (Bl.fold f) s), Vi (Bl.keyErr (Bl.fold f) s)]) rfl (bmay_ok (Bl.fold f) a4 c5 s) hf12 (fun w hw => (rd_own (i := 1) rfl) w hw) rfl ?_
  refine o_mv rfl rfl ?_
  refine o_ex rfl rfl rfl ?_
  refine o_ex rfl rfl rfl ?_
  refine o_as rfl rfl ?_
  refine o_as rfl rfl ?_
  refine o_nil (q_then (c_seq (c_seq (c_region ?_))))
  refine o_mv rfl rfl ?_
  refine o_mv rfl rfl ?_
  refine o_p (p_ne rfl rfl) ?_
  refine o_mv rfl rfl ?_
  refine o_or (p := 52) 6 ((Bl.may f s) && (!(Bl.may (Bl.fold f) s))) ?_ ?_ ?_
  ·intro hb9 hk
   simp only [bne_eq_false_iff_eq] at hb9
   refine o_unguard 46 rfl rfl ?_
   refine o_mv rfl rfl ?_
   refine o_unguard 46 rfl rfl ?_
   refine o_mv rfl rfl ?_
   refine o_and (p := 51) 3 (!(Bl.may (Bl.fold f) s)) ?_ ?_ ?_
   ·intro hb10 hk
    skip
    refine o_unguard 48 rfl rfl ?_
    refine o_mv rfl rfl ?_
    refine o_unguard 48 rfl rfl ?_
    refine o_p (p_not (b := (Bl.may (Bl.fold f) s)) rfl) ?_
    refine o_unguard 46 rfl rfl ?_
    refine o_pt rfl rfl rfl ?_
    exact o_sub (sr (Sub.skip rfl (Sub.skip rfl (Sub.skip rfl (Sub.skip rfl (Sub.refl _)))))) hk
   ·intro hb10 hk
    refine o_guard_no rfl 48 rfl rfl rfl rfl rfl ?_
    refine o_guard_no rfl 48 rfl rfl rfl rfl rfl ?_
    refine o_unguard 46 rfl rfl ?_
    refine o_pf rfl rfl rfl ?_
    exact o_sub (sr (Sub.skip rfl (Sub.skip rfl (Sub.skip rfl (Sub.skip rfl (Sub.refl _)))))) hk
   refine o_pf rfl rfl rfl ?_
   exact o_sub (sr (Sub.skip rfl (Sub.skip rfl (Sub.skip rfl (Sub.skip rfl (Sub.refl _)))))) hk
  ·intro hb9 hk
   refine o_guard_no rfl 46 rfl rfl rfl rfl rfl ?_
   refine o_guard_no rfl 46 rfl rfl rfl rfl rfl ?_
   refine o_guard_no rfl 48 rfl rfl rfl rfl rfl ?_
   refine o_guard_no rfl 48 rfl rfl rfl rfl rfl ?_
   refine o_guard_no rfl 46 rfl rfl rfl rfl rfl ?_
   refine o_pt rfl rfl rfl ?_
   exact o_sub (sr (Sub.skip rfl (Sub.skip rfl (Sub.skip rfl (Sub.skip rfl (Sub.skip rfl (Sub.skip rfl (Sub.skip rfl (Sub.refl _))))))))) hk
  refine o_nil (q_then ?_)
  refine c_cond rfl (fun hc11 => ?_) (fun hc11 => ?_)
  ·simp only [Bool.or_eq_true, bne_iff_ne, ne_eq, Bool.and_eq_true, Bool.not_eq_true'] at hc11
   exfalso; have hq := hc11
   rcases hq with h9 | h9 <;> first | exact h9 u1 | (simp_all; done) | omega
  ·simp only [Bool.or_eq_false_iff, bne_eq_false_iff_eq, Bool.and_eq_false_iff, Bool.not_eq_false'] at hc11
   refine c_skip (q_then (c_seq (c_region ?_)))
   refine o_p (p_load_agg (i := 2) (vs := [Vi f.size, Vi f.hashes, .slice af_0 f.set.length cf_0]) rfl rfl sh24 rfl rfl) ?_
   refine o_mv rfl rfl ?_
   refine o_callM rfl (badd_ok f af_0 cf_0 t) hf11 (fun w hw => (rd_base (i := 3) rfl hf_0) w hw) rfl (fun _ _ _ _ ha hA => SlO.agree ha hA) ?_
   rintro ⟨a14, c15⟩ S12
   refine o_know (fun w hw => own_len (i := 0) (T := tInt) hw rfl) (fun hlr16 => ?_)
   refine o_mv rfl rfl ?_
   refine o_ex rfl rfl rfl ?_
   refine o_ex rfl rfl rfl ?_
   refine o_alloc ze24 rfl (fun B17 => ?_)
   refine o_storeN (i := 0) (vs := [Vi ((Bl.add f t).size), Vi ((Bl.add f t).hashes), .slice a14 ((Bl.add f t).set).length c15]) (cs' := [Vi ((Bl.add f t).size), Vi ((Bl.add f t).hashes), .slice a14 ((Bl.add f t).set).length c15]) rfl rfl rfl sz24 rfl rfl rfl rfl ?_
   refine o_as rfl rfl ?_
   refine o_nil (q_then (c_seq (c_region ?_)))
   refine o_p (p_load_agg (i := 2) (vs := [Vi ((Bl.fold f).size), Vi ((Bl.fold f).hashes), .slice a4 ((Bl.fold f).set).length c5]) rfl rfl sh24 rfl rfl) ?_
   refine o_mv rfl rfl ?_
   refine o_callM rfl (badd_ok (Bl.fold f) a4 c5 t) hf11 (fun w hw => (rd_own (i := 3) rfl) w hw) rfl (fun _ _ _ _ ha hA => SlO.agree ha hA) ?_
   rintro ⟨a20, c21⟩ S18
   refine o_know (fun w hw => own_len (i := 0) (T := tInt) hw rfl) (fun hlr22 => ?_)
   refine o_mv rfl rfl ?_
   refine o_ex rfl rfl rfl ?_
   refine o_ex rfl rfl rfl ?_
   refine o_alloc ze24 rfl (fun B23 => ?_)
   refine o_storeN (i := 0) (vs := [Vi ((Bl.add (Bl.fold f) t).size), Vi ((Bl.add (Bl.fold f) t).hashes), .slice a20 ((Bl.add (Bl.fold f) t).set).length c21]) (cs' := [Vi ((Bl.add (Bl.fold f) t).size), Vi ((Bl.add (Bl.fold f) t).hashes), .slice a20 ((Bl.add (Bl.fold f) t).set).length c21]) rfl rfl rfl sz24 rfl rfl rfl rfl ?_
   refine o_as rfl rfl ?_
   refine o_nil (q_then (c_seq (c_seq (c_region ?_))))
   refine o_mv rfl rfl ?_
   refine o_p (p_ne rfl rfl) ?_
   refine o_mv rfl rfl ?_
   refine o_or (p := 70) 3 ((Bl.keyErr (Bl.fold f) t) != 0) ?_ ?_ ?_
   ·intro hb24 hk
    simp only [bne_eq_false_iff_eq] at hb24
    refine o_unguard 67 rfl rfl ?_
    refine o_mv rfl rfl ?_
    refine o_unguard 67 rfl rfl ?_
    refine o_p (p_ne rfl rfl) ?_
    refine o_pf rfl rfl rfl ?_
    exact o_sub (sr (Sub.skip rfl (Sub.skip rfl (Sub.skip rfl (Sub.skip rfl (Sub.refl _)))))) hk
   ·intro hb24 hk
    refine o_guard_no rfl 67 rfl rfl rfl rfl rfl ?_
    refine o_guard_no rfl 67 rfl rfl rfl rfl rfl ?_
    refine o_pt rfl rfl rfl ?_
    exact o_sub (sr (Sub.skip rfl (Sub.skip rfl (Sub.skip rfl (Sub.skip rfl (Sub.refl _)))))) hk
   refine o_nil (q_then ?_)
   refine c_cond rfl (fun hc25 => ?_) (fun hc25 => ?_)
   ·simp only [Bool.or_eq_true, bne_iff_ne, ne_eq] at hc25
    refine c_seq (c_region ?_)
    refine o_mv rfl rfl ?_
    refine o_mv rfl rfl ?_
    refine o_p (p_eq rfl rfl) ?_
    refine o_as rfl rfl ?_
    refine o_nil (q_then (c_ret ?_))
    refine q_then_ret ?_
    have hr0 : (((Bl.keyErr f t) == (Bl.keyErr (Bl.fold f) t)) : Bool) = true := by
     first | rfl | exact Bl.fold_bad hbad | (rw [u3]; simp; done) | (obtain ⟨q1, q2⟩ := h4; simp [q1, q2])
    refine q_end0 (v := .bool ((Bl.keyErr f t) == (Bl.keyErr (Bl.fold f) t))) (rt1 rfl (r_tmp rfl)) (i := 7) rfl ?_
    exact (by have hcc := congrArg (fun (y0 : Bool) => (.bool y0 : Value)) hr0; exact hcc)
   ·simp only [Bool.or_eq_false_iff, bne_eq_false_iff_eq] at hc25
    have h4 := Bl.fold2 hue hc25.1
    refine c_skip (q_then (c_seq (c_region ?_)))
    refine o_p (p_load_agg (i := 2) (vs := [Vi ((Bl.add f t).size), Vi ((Bl.add f t).hashes), .slice a14 ((Bl.add f t).set).length c15]) rfl rfl sh24 rfl rfl) ?_
    refine o_callM rfl (bfold_ok (Bl.add f t) a14 c15) hf14 (fun w hw => (rd_own (i := 3) rfl) w hw) rfl (fun _ _ _ _ ha hA => SlO.agree ha hA) ?_
    rintro ⟨a28, c29⟩ S26
    refine o_know (fun w hw => own_len (i := 0) (T := tInt) hw rfl) (fun hlr30 => ?_)
    refine o_mv rfl rfl ?_
    refine o_ex rfl rfl rfl ?_
    refine o_ex rfl rfl rfl ?_
    refine o_alloc ze24 rfl (fun B31 => ?_)
    refine o_storeN (i := 0) (vs := [Vi ((Bl.fold (Bl.add f t)).size), Vi ((Bl.fold (Bl.add f t)).hashes), .slice a28 ((Bl.fold (Bl.add f t)).set).length c29]) (cs' := [Vi ((Bl.fold (Bl.add f t)).size), Vi ((Bl.fold (Bl.add f t)).hashes), .slice a28 ((Bl.fold (Bl.add f t)).set).length c29]) rfl rfl rfl sz24 rfl rfl rfl rfl ?_
    refine o_as rfl rfl ?_
    refine o_nil (q_then (c_seq (c_region ?_)))
    refine o_mv rfl rfl ?_
    refine o_p (p_eq rfl rfl) ?_
    refine o_mv rfl rfl ?_
    refine o_and (p := 85) 4 (decide ((Bl.fold (Bl.add f t)) = (Bl.add (Bl.fold f) t))) ?_ ?_ ?_
    ·intro hb32 hk
     simp only [beq_iff_eq] at hb32
     refine o_unguard 81 rfl rfl ?_
     refine o_p (p_load_agg (i := 0) (vs := [Vi ((Bl.fold (Bl.add f t)).size), Vi ((Bl.fold (Bl.add f t)).hashes), .slice a28 ((Bl.fold (Bl.add f t)).set).length c29]) rfl rfl sh24 rfl rfl) ?_
     refine o_unguard 81 rfl rfl ?_
     refine o_p (p_load_agg (i := 2) (vs := [Vi ((Bl.add (Bl.fold f) t).size), Vi ((Bl.add (Bl.fold f) t).hashes), .slice a20 ((Bl.add (Bl.fold f) t).set).length c21]) rfl rfl sh24 rfl rfl) ?_
     refine o_unguard 81 rfl rfl ?_
     refine o_call0 (v := .bool (decide ((Bl.fold (Bl.add f t)) = (Bl.add (Bl.fold f) t)))) rfl (sameFilter_ok (Bl.fold (Bl.add f t)) a28 c29 (Bl.add (Bl.fold f) t) a20 c21) hf22 (fun w hw => ⟨(rd_own (i := 1) rfl) w hw, (rd_own (i := 3) rfl) w hw⟩) rfl ?_
     refine o_pt rfl rfl rfl ?_
     exact o_sub (sr (Sub.skip rfl (Sub.skip rfl (Sub.skip rfl (Sub.skip rfl (Sub.skip rfl (Sub.refl _))))))) hk
    ·intro hb32 hk
     refine o_guard_no rfl 81 rfl rfl rfl rfl rfl ?_
     refine o_guard_no rfl 81 rfl rfl rfl rfl rfl ?_
     refine o_guard_no rfl 81 rfl rfl rfl rfl rfl ?_
     refine o_pf rfl rfl rfl ?_
     exact o_sub (sr (Sub.skip rfl (Sub.skip rfl (Sub.skip rfl (Sub.skip rfl (Sub.skip rfl (Sub.refl _))))))) hk
    refine o_as rfl rfl ?_
    refine o_nil (q_then (c_ret ?_))
    have hr0 : ((((Bl.foldErr (Bl.add f t)) == 0) && (decide ((Bl.fold (Bl.add f t)) = (Bl.add (Bl.fold f) t)))) : Bool) = true := by
     first | rfl | exact Bl.fold_bad hbad | (rw [u3]; simp; done) | (obtain ⟨q1, q2⟩ := h4; simp [q1, q2])
    refine q_end0 (v := .bool (((Bl.foldErr (Bl.add f t)) == 0) && (decide ((Bl.fold (Bl.add f t)) = (Bl.add (Bl.fold f) t))))) (rt1 rfl (r_tmp rfl)) (i := 9) rfl ?_
    exact (by have hcc := congrArg (fun (y0 : Bool) => (.bool y0 : Value)) hr0; exact hcc)
end Go.Proofs.Ytfncgfcehkalnaa
