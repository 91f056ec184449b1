/- The walks, printed by a program from the translation and a specification. -/
import Derived.Test.YtfncgfcehkalnaaTbF
import Derived.Test.YtfncgfcehkalnaaHaPureM14
import Derived.Test.YtfncgfcehkalnaaTbW1M3
import Derived.Test.YtfncgfcehkalnaaBlK
import Derived.Test.YtfncgfcehkalnaaProg
import Derived.Test.YtfncgfcehkalnaaSx12M16
namespace Go.Proofs.Ytfncgfcehkalnaa
open Go.Sx Go.RowKit
set_option maxHeartbeats 8000000 in
set_option maxRecDepth 100000 in
theorem bonce_ok (l : List Int) (al : Option Addr) (cl : Nat) (Sl : Nat → Prop) : FnX Try.prog 36 [.slice al l.length cl] [own tInt Sl al cl l] (fun _ => True) (Option Addr × Nat × (Nat → Prop)) (fun p => .slice p.1 (Bl.once l).length p.2.1) (fun p => [own tInt p.2.2 p.1 p.2.1 (Bl.once l)]) := by
 refine fnX (nt := 7) (F0 := [(0, .slice al l.length cl)]) Try.func36 rfl Try.ntmps36 rfl rfl (fun w0 hpre => ?_)
 refine c_know (fun w hw => own_len (i := 1) (T := tInt) hw rfl) (fun hlown_l => ?_)
 obtain ⟨hcown_l, hlown_l⟩ := hlown_l
 refine c_seq (c_region ?_)
 refine o_as rfl rfl ?_
 refine o_nil (q_then (c_seq (c_region ?_)))
 refine o_mv rfl rfl ?_
 refine o_pick (H' := [own tInt Sl al cl l, outer w0 [own tInt Sl al cl l]]) [1, 0] (by decide) rfl ?_
 refine o_callX (pre := [own tInt Sl al cl l]) (R := [outer w0 [own tInt Sl al cl l]]) rfl (sortI_ok l al cl Sl) hf59 rfl (fun _ _ => trivial) rfl ?_
 rintro ⟨⟩
 refine o_asH (H' := [own tInt Sl al cl (sortL l), outer w0 [own tInt Sl al cl l]]) rfl ?_
 refine o_cast (F' := [(0, .slice al (sortL l).length cl)]) (H := [own tInt Sl al cl (sortL l), outer w0 [own tInt Sl al cl l]]) (H' := [own tInt Sl al cl (sortL l), outer w0 [own tInt Sl al cl l]]) (Sub.cons (by simp only [List.length_set, List.length_reverse, sortL_len]; rfl) (Sub.nil _)) (by rfl) ?_
 refine o_nil (q_then (c_seq (c_region ?_)))
 refine o_mv rfl rfl ?_
 refine o_callX (pre := [own tInt Sl al cl (sortL l)]) (R := [outer w0 [own tInt Sl al cl l]]) rfl (compactI_ok (sortL l) al cl Sl) hf60 rfl (fun _ _ => trivial) rfl ?_
 rintro ⟨a1, c2, S3⟩
 refine o_asH (H' := [own tInt S3 a1 c2 (compactL (sortL l)), outer w0 [own tInt Sl al cl l]]) rfl ?_
 refine o_as rfl rfl ?_
 refine o_nil (q_then (c_ret ?_))
 have hr0 : ((compactL (sortL l)) : List Int) = (Bl.once l) := by
  exact Bl.once_eq l
 refine q_endX (p := (a1, c2, S3)) (rt1 rfl (r_tmp rfl)) ?_ (fun w hw => ?_)
 ·exact (by have hcc := congrArg (fun (y0 : List Int) => (.slice a1 y0.length c2 : Value)) hr0; exact hcc)
 ·have h2 := hw.pick (H' := [outer w0 [own tInt Sl al cl l], own tInt S3 a1 c2 (compactL (sortL l))]) [1, 0] (by decide) rfl
  exact Eq.mp (congrArg (fun z => HeapIs w0 ((outer w0 [own tInt Sl al cl l]) :: z) w) ((by have hcc := congrArg (fun (y0 : List Int) => ([own tInt S3 a1 c2 y0] : List Ent)) hr0; exact hcc))) h2

set_option maxHeartbeats 8000000 in
set_option maxRecDepth 100000 in
theorem bcheck_ok (f : DFilter) (af_0 : Option Addr) (cf_0 : Nat) : Fn0 Try.prog 21 [.agg #[Vi f.size, Vi f.hashes, .slice af_0 f.set.length cf_0]] (fun w => Rd tInt w af_0 cf_0 f.set) (Vi (Bl.check f)) := by
 refine fn0 (nt := 54) (F0 := [(0, .agg #[Vi f.size, Vi f.hashes, .slice af_0 f.set.length cf_0])]) Try.func21 rfl Try.ntmps21 rfl rfl (fun w0 hpre => ?_)
 have hf_0 := hpre
 have hlhf_0 := hf_0.2.1
 refine c_seq (c_region ?_)
 refine o_box (v := .agg #[Vi f.size, Vi f.hashes, .slice af_0 f.set.length cf_0]) rfl rfl (fun B1 => ?_)
 refine o_as rfl rfl ?_
 refine o_nil (q_then (c_seq (c_block (c_seq (c_region ?_)))))
 refine o_p (p_fieldAddr (j' := 0) rfl fo24_0 rfl) ?_
 refine o_p (p_load (i := 0) (v := Vi f.size) rfl rfl sh3 rfl) ?_
 refine o_p (p_lt rfl rfl) ?_
 refine o_mv rfl rfl ?_
 refine o_or (p := 14) 4 (decide (1024 < f.size)) ?_ ?_ ?_
 ·intro hb2 hk
  simp only [decide_eq_false_iff_not, Int.not_lt] at hb2
  refine o_unguard 10 rfl rfl ?_
  refine o_p (p_fieldAddr (j' := 0) rfl fo24_0 rfl) ?_
  refine o_unguard 10 rfl rfl ?_
  refine o_p (p_load (i := 0) (v := Vi f.size) rfl rfl sh3 rfl) ?_
  refine o_unguard 10 rfl rfl ?_
  refine o_p (p_gt rfl rfl) ?_
  refine o_pf rfl rfl rfl ?_
  exact o_sub (sr (Sub.skip rfl (Sub.skip rfl (Sub.skip rfl (Sub.skip rfl (Sub.skip rfl (Sub.refl _))))))) hk
 ·intro hb2 hk
  refine o_guard_no rfl 10 rfl rfl rfl rfl rfl ?_
  refine o_guard_no rfl 10 rfl rfl rfl rfl rfl ?_
  refine o_guard_no rfl 10 rfl rfl rfl rfl rfl ?_
  refine o_pt rfl rfl rfl ?_
  exact o_sub (sr (Sub.skip rfl (Sub.skip rfl (Sub.skip rfl (Sub.skip rfl (Sub.skip rfl (Sub.refl _))))))) hk
 refine o_mv rfl rfl ?_
 refine o_or (p := 19) 4 (decide (f.hashes < 1)) ?_ ?_ ?_
 ·intro hb3 hk
  simp only [Bool.or_eq_false_iff, decide_eq_false_iff_not, Int.not_lt] at hb3
  refine o_unguard 15 rfl rfl ?_
  refine o_p (p_fieldAddr (j' := 1) rfl fo24_1 rfl) ?_
  refine o_unguard 15 rfl rfl ?_
  refine o_p (p_load (i := 0) (v := Vi f.hashes) rfl rfl sh3 rfl) ?_
  refine o_unguard 15 rfl rfl ?_
  refine o_p (p_lt rfl rfl) ?_
  refine o_pf rfl rfl rfl ?_
  exact o_sub (sr (Sub.skip rfl (Sub.skip rfl (Sub.skip rfl (Sub.skip rfl (Sub.skip rfl (Sub.refl _))))))) hk
 ·intro hb3 hk
  refine o_guard_no rfl 15 rfl rfl rfl rfl rfl ?_
  refine o_guard_no rfl 15 rfl rfl rfl rfl rfl ?_
  refine o_guard_no rfl 15 rfl rfl rfl rfl rfl ?_
  refine o_pt rfl rfl rfl ?_
  exact o_sub (sr (Sub.skip rfl (Sub.skip rfl (Sub.skip rfl (Sub.skip rfl (Sub.skip rfl (Sub.refl _))))))) hk
 refine o_mv rfl rfl ?_
 refine o_or (p := 24) 4 (decide (8 < f.hashes)) ?_ ?_ ?_
 ·intro hb4 hk
  simp only [Bool.or_eq_false_iff, decide_eq_false_iff_not, Int.not_lt] at hb4
  refine o_unguard 20 rfl rfl ?_
  refine o_p (p_fieldAddr (j' := 1) rfl fo24_1 rfl) ?_
  refine o_unguard 20 rfl rfl ?_
  refine o_p (p_load (i := 0) (v := Vi f.hashes) rfl rfl sh3 rfl) ?_
  refine o_unguard 20 rfl rfl ?_
  refine o_p (p_gt rfl rfl) ?_
  refine o_pf rfl rfl rfl ?_
  exact o_sub (sr (Sub.skip rfl (Sub.skip rfl (Sub.skip rfl (Sub.skip rfl (Sub.skip rfl (Sub.refl _))))))) hk
 ·intro hb4 hk
  refine o_guard_no rfl 20 rfl rfl rfl rfl rfl ?_
  refine o_guard_no rfl 20 rfl rfl rfl rfl rfl ?_
  refine o_guard_no rfl 20 rfl rfl rfl rfl rfl ?_
  refine o_pt rfl rfl rfl ?_
  exact o_sub (sr (Sub.skip rfl (Sub.skip rfl (Sub.skip rfl (Sub.skip rfl (Sub.skip rfl (Sub.refl _))))))) hk
 refine o_as rfl rfl ?_
 refine o_nil (q_then ?_)
 refine c_cond rfl (fun hc5 => ?_) (fun hc5 => ?_)
 ·simp only [Bool.or_eq_true, decide_eq_true_eq] at hc5
  have hbd := hc5
  refine c_seq (c_region ?_)
  refine o_as rfl rfl ?_
  refine o_nil (q_then (c_ret ?_))
  refine q_block_ret (q_then_ret ?_)
  have hr0 : (3 : Int) = (Bl.check f) := by
   first | exact Bl.chk1 (by omega) | exact Bl.chk2 (by omega) (by omega) | exact Bl.chk3 (by omega) (by omega) (hI.bad (by omega) (by omega)) | exact Bl.chk3 (by omega) (by omega) (hI.low (by omega) (by omega) (by omega)) | exact Bl.chk3 (by omega) (by omega) (hI.done (by omega))
  refine q_end0 (v := Vi 3) (rt1 rfl (r_tmp rfl)) (i := 1) rfl ?_
  exact (by have hcc := congrArg (fun (y0 : Int) => (.int .i64 y0 : Value)) hr0; exact hcc)
 ·simp only [Bool.or_eq_false_iff, decide_eq_false_iff_not, Int.not_lt] at hc5
  have hbd := hc5
  refine c_seq (c_region ?_)
  refine o_p (p_fieldAddr (j' := 2) rfl fo24_2 rfl) ?_
  refine o_p (p_load (i := 0) (v := .slice af_0 f.set.length cf_0) rfl rfl sh22 rfl) ?_
  refine o_p (p_len_slice rfl rfl Try.underlying22) ?_
  refine o_p (p_fieldAddr (j' := 0) rfl fo24_0 rfl) ?_
  refine o_p (p_load (i := 0) (v := Vi f.size) rfl rfl sh3 rfl) ?_
  refine o_p (p_gt rfl rfl) ?_
  refine o_as rfl rfl ?_
  refine o_nil (q_then ?_)
  refine c_cond rfl (fun hc6 => ?_) (fun hc6 => ?_)
  ·simp only [decide_eq_true_eq] at hc6
   refine c_seq (c_region ?_)
   refine o_as rfl rfl ?_
   refine o_nil (q_then (c_ret ?_))
   refine q_block_ret (q_then_ret ?_)
   have hr0 : (2 : Int) = (Bl.check f) := by
    first | exact Bl.chk1 (by omega) | exact Bl.chk2 (by omega) (by omega) | exact Bl.chk3 (by omega) (by omega) (hI.bad (by omega) (by omega)) | exact Bl.chk3 (by omega) (by omega) (hI.low (by omega) (by omega) (by omega)) | exact Bl.chk3 (by omega) (by omega) (hI.done (by omega))
   refine q_end0 (v := Vi 2) (rt1 rfl (r_tmp rfl)) (i := 1) rfl ?_
   exact (by have hcc := congrArg (fun (y0 : Int) => (.int .i64 y0 : Value)) hr0; exact hcc)
  ·simp only [decide_eq_false_iff_not, Int.not_lt] at hc6
   refine c_skip ?_
   refine q_block_normal (q_then ?_)
   refine c_seq (c_region ?_)
   refine o_as rfl rfl ?_
   refine o_nil (q_then (c_seq (c_seq (c_region ?_))))
   refine o_p (p_fieldAddr (j' := 2) rfl fo24_2 rfl) ?_
   refine o_p (p_load (i := 0) (v := .slice af_0 f.set.length cf_0) rfl rfl sh22 rfl) ?_
   refine o_p (p_len_slice rfl rfl Try.underlying22) ?_
   refine o_mv rfl rfl ?_
   refine o_nil (q_then (c_block ?_))
   refine c_loop (St := Int × Nat)
    (fun ⟨last, k⟩ => [(1, .pointer (some ⟨B1, 0, none⟩)), (3, Vi last), (33, .slice af_0 f.set.length cf_0), (34, Vi (f.set.length : Int)), (35, Vi (k : Int))])
    (fun ⟨last, k⟩ => [box B1 [Vi f.size, Vi f.hashes, .slice af_0 f.set.length cf_0] 24, base w0])
    (fun ⟨last, k⟩ => Bl.CkI f last k)
    (fun ⟨last, k⟩ => f.set.length - k)
    ((-1), 0) ?_ (sr (sr (sr (sr (sr (Sub.nil _)))))) (fun _ hw => hw) ?_
   ·exact Bl.CkI.start f
   rintro ⟨last, k⟩ hI K hK7
   have hle := hI.le
   show SC _ _ Try.prog 54 w0 _ _ [(1, .pointer (some ⟨B1, 0, none⟩)), (3, Vi last), (33, .slice af_0 f.set.length cf_0), (34, Vi (f.set.length : Int)), (35, Vi (k : Int))] [box B1 [Vi f.size, Vi f.hashes, .slice af_0 f.set.length cf_0] 24, base w0]
   refine c_seq (c_region ?_)
   refine o_p (p_lt rfl rfl) ?_
   refine o_nil (q_then (c_seq ?_))
   refine c_cond rfl (fun hc8 => ?_) (fun hc8 => ?_)
   ·simp only [decide_eq_true_eq] at hc8
    refine c_skip (q_then (c_seq (c_block (c_seq (c_region ?_)))))
    refine o_p (p_indexAddr (L := f.set) (T := tInt) (i := (k : Int)) rfl rfl (rd_base (i := 1) rfl hf_0) Try.underlying22 sz3 (by omega) (by omega)) ?_
    refine o_p (p_loadE1 (i := k) (T := tInt) (L := f.set) (v := Vi (f.set[k])) rfl (rd_base (i := 1) rfl hf_0) (by first | assumption | omega) sh3 rfl) ?_
    refine o_as rfl rfl ?_
    refine o_nil (q_then (c_seq (c_block (c_seq (c_region ?_)))))
    refine o_mv rfl rfl ?_
    refine o_p (p_lt rfl rfl) ?_
    refine o_mv rfl rfl ?_
    refine o_or (p := 47) 5 (decide (f.size ≤ f.set[k])) ?_ ?_ ?_
    ·intro hb9 hk
     simp only [decide_eq_false_iff_not, Int.not_lt] at hb9
     refine o_unguard 42 rfl rfl ?_
     refine o_mv rfl rfl ?_
     refine o_unguard 42 rfl rfl ?_
     refine o_p (p_fieldAddr (j' := 0) rfl fo24_0 rfl) ?_
     refine o_unguard 42 rfl rfl ?_
     refine o_p (p_load (i := 0) (v := Vi f.size) rfl rfl sh3 rfl) ?_
     refine o_unguard 42 rfl rfl ?_
     refine o_p (p_ge rfl rfl) ?_
     refine o_pf rfl rfl rfl ?_
     exact o_sub (sr (Sub.skip rfl (Sub.skip rfl (Sub.skip rfl (Sub.skip rfl (Sub.skip rfl (Sub.skip rfl (Sub.refl _)))))))) hk
    ·intro hb9 hk
     refine o_guard_no rfl 42 rfl rfl rfl rfl rfl ?_
     refine o_guard_no rfl 42 rfl rfl rfl rfl rfl ?_
     refine o_guard_no rfl 42 rfl rfl rfl rfl rfl ?_
     refine o_guard_no rfl 42 rfl rfl rfl rfl rfl ?_
     refine o_pt rfl rfl rfl ?_
     exact o_sub (sr (Sub.skip rfl (Sub.skip rfl (Sub.skip rfl (Sub.skip rfl (Sub.skip rfl (Sub.skip rfl (Sub.refl _)))))))) hk
    refine o_as rfl rfl ?_
    refine o_nil (q_then ?_)
    refine c_cond rfl (fun hc10 => ?_) (fun hc10 => ?_)
    ·simp only [Bool.or_eq_true, decide_eq_true_eq] at hc10
     refine c_seq (c_region ?_)
     refine o_as rfl rfl ?_
     refine o_nil (q_then (c_ret ?_))
     refine q_block_ret (q_then_ret (q_block_ret (q_then_ret (q_then_ret (q_block_ret (q_then_ret ?_))))))
     have hr0 : (3 : Int) = (Bl.check f) := by
      first | exact Bl.chk1 (by omega) | exact Bl.chk2 (by omega) (by omega) | exact Bl.chk3 (by omega) (by omega) (hI.bad (by omega) (by omega)) | exact Bl.chk3 (by omega) (by omega) (hI.low (by omega) (by omega) (by omega)) | exact Bl.chk3 (by omega) (by omega) (hI.done (by omega))
     refine q_end0 (v := Vi 3) (rt1 rfl (r_tmp rfl)) (i := 1) rfl ?_
     exact (by have hcc := congrArg (fun (y0 : Int) => (.int .i64 y0 : Value)) hr0; exact hcc)
    ·simp only [Bool.or_eq_false_iff, decide_eq_false_iff_not, Int.not_lt, Int.not_le] at hc10
     refine c_seq (c_region ?_)
     refine o_mv rfl rfl ?_
     refine o_mv rfl rfl ?_
     refine o_p (p_le rfl rfl) ?_
     refine o_as rfl rfl ?_
     refine o_nil (q_then ?_)
     refine c_cond rfl (fun hc11 => ?_) (fun hc11 => ?_)
     ·simp only [decide_eq_true_eq] at hc11
      refine c_seq (c_region ?_)
      refine o_as rfl rfl ?_
      refine o_nil (q_then (c_ret ?_))
      refine q_block_ret (q_then_ret (q_block_ret (q_then_ret (q_then_ret (q_block_ret (q_then_ret ?_))))))
      have hr0 : (4 : Int) = (Bl.check f) := by
       first | exact Bl.chk1 (by omega) | exact Bl.chk2 (by omega) (by omega) | exact Bl.chk3 (by omega) (by omega) (hI.bad (by omega) (by omega)) | exact Bl.chk3 (by omega) (by omega) (hI.low (by omega) (by omega) (by omega)) | exact Bl.chk3 (by omega) (by omega) (hI.done (by omega))
      refine q_end0 (v := Vi 4) (rt1 rfl (r_tmp rfl)) (i := 1) rfl ?_
      exact (by have hcc := congrArg (fun (y0 : Int) => (.int .i64 y0 : Value)) hr0; exact hcc)
     ·simp only [decide_eq_false_iff_not, Int.not_le] at hc11
      refine c_skip ?_
      refine q_block_normal (q_then ?_)
      refine c_region ?_
      refine o_mv rfl rfl ?_
      refine o_as rfl rfl ?_
      refine o_nil ?_
      refine q_block_normal (q_then ?_)
      refine c_region ?_
      refine o_p (p_addb rfl rfl (by omega)) ?_
      refine o_mv rfl rfl ?_
      refine o_nil ?_
      refine q_round hK7 (f.set[k], k + 1) ?_ ?_ ?_ ?_
      ·clear hK7
       exact hI.next (by omega) (by omega) (by omega)
      ·(try dsimp only); omega
      ·exact sr (sr (sr (sr (sr (Sub.nil _)))))
      ·exact pk [0, 1]
   ·simp only [decide_eq_false_iff_not, Int.not_lt] at hc8
    refine c_exit ?_
    refine q_then_exit (q_then_exit (q_block_exit (q_then ?_)))
    refine c_seq (c_region ?_)
    refine o_as rfl rfl ?_
    refine o_nil (q_then (c_ret ?_))
    have hr0 : (0 : Int) = (Bl.check f) := by
     first | exact Bl.chk1 (by omega) | exact Bl.chk2 (by omega) (by omega) | exact Bl.chk3 (by omega) (by omega) (hI.bad (by omega) (by omega)) | exact Bl.chk3 (by omega) (by omega) (hI.low (by omega) (by omega) (by omega)) | exact Bl.chk3 (by omega) (by omega) (hI.done (by omega))
    refine q_end0 (v := Vi 0) (rt1 rfl (r_tmp rfl)) (i := 1) rfl ?_
    exact (by have hcc := congrArg (fun (y0 : Int) => (.int .i64 y0 : Value)) hr0; exact hcc)

set_option maxHeartbeats 8000000 in
set_option maxRecDepth 100000 in
theorem bplaces_ok (f : DFilter) (af_0 : Option Addr) (cf_0 : Nat) (s : ByteArray) (hy1 : Bl.Ok f ∧ s.size ≤ 40) : FnM Try.prog 31 [.agg #[Vi f.size, Vi f.hashes, .slice af_0 f.set.length cf_0], .string s] (fun w => Rd tInt w af_0 cf_0 f.set) (Option Addr × Nat) (fun p => .slice p.1 (Bl.places f s).length p.2) (fun p S w => SlO tInt S w p.1 p.2 (Bl.places f s)) := by
 refine fnM (nt := 31) (F0 := [(0, .agg #[Vi f.size, Vi f.hashes, .slice af_0 f.set.length cf_0]), (1, .string s)]) Try.func31 rfl Try.ntmps31 rfl rfl (fun w0 hpre => ?_)
 have hf_0 := hpre
 have hlhf_0 := hf_0.2.1
 have hsz := hy1.1.size
 have hha := hy1.1.hashes
 refine c_seq (c_region ?_)
 refine o_box (v := .agg #[Vi f.size, Vi f.hashes, .slice af_0 f.set.length cf_0]) rfl rfl (fun B1 => ?_)
 refine o_as rfl rfl ?_
 refine o_nil (q_then (c_seq (c_region ?_)))
 refine o_as rfl rfl ?_
 refine o_nil (q_then (c_seq (c_seq (c_region ?_))))
 refine o_p (p_fieldAddr (j' := 1) rfl fo24_1 rfl) ?_
 refine o_p (p_load (i := 0) (v := Vi f.hashes) rfl rfl sh3 rfl) ?_
 refine o_mv rfl rfl ?_
 refine o_nil (q_then (c_block ?_))
 refine c_ownNil tInt ?_
 refine c_loop (St := List Int × Option Addr × Nat × (Nat → Prop) × Nat)
  (fun ⟨out, aout, cout, Sout, k⟩ => [(1, .string s), (2, .pointer (some ⟨B1, 0, none⟩)), (5, .slice aout out.length cout), (10, Vi f.hashes), (11, Vi (k : Int))])
  (fun ⟨out, aout, cout, Sout, k⟩ => [own tInt Sout aout cout out, box B1 [Vi f.size, Vi f.hashes, .slice af_0 f.set.length cf_0] 24, base w0])
  (fun ⟨out, aout, cout, Sout, k⟩ => k ≤ f.hashes.toNat ∧ out = (List.range k).map (fun i : Nat => Bl.place f s (i : Int)))
  (fun ⟨out, aout, cout, Sout, k⟩ => f.hashes.toNat - k)
  ([], none, 0, (fun _ => False), 0) ?_ (sr (sr (sr (sr (sr (Sub.nil _)))))) (fun _ hw => hw) ?_
 ·exact ⟨Nat.zero_le _, rfl⟩
 rintro ⟨out, aout, cout, Sout, k⟩ hI K hK3
 have hol : out.length = k := by rw [hI.2]; simp
 show SC _ _ Try.prog 31 w0 _ _ [(1, .string s), (2, .pointer (some ⟨B1, 0, none⟩)), (5, .slice aout out.length cout), (10, Vi f.hashes), (11, Vi (k : Int))] [own tInt Sout aout cout out, box B1 [Vi f.size, Vi f.hashes, .slice af_0 f.set.length cf_0] 24, base w0]
 refine c_seq (c_region ?_)
 refine o_p (p_lt rfl rfl) ?_
 refine o_nil (q_then (c_seq ?_))
 refine c_cond rfl (fun hc4 => ?_) (fun hc4 => ?_)
 ·simp only [decide_eq_true_eq] at hc4
  refine c_skip (q_then (c_seq (c_block (c_seq (c_region ?_)))))
  refine o_mv rfl rfl ?_
  refine o_as rfl rfl ?_
  refine o_nil (q_then (c_seq (c_region ?_)))
  refine o_mv rfl rfl ?_
  refine o_mv rfl rfl ?_
  refine o_p (pu_conv (z := (k : Int)) rfl Try.underlying3 Try.underlying81) ?_
  refine o_call0 (v := .tuple #[.int .u64 ((Hash.salted s (toU (k : Int))).toNat : Int), Vi (Hash.sumErr s)]) rfl (saltedN_ok s (toU (k : Int))) hf53 (fun _ _ => trivial) rfl ?_
  refine o_mv rfl rfl ?_
  refine o_ex rfl rfl rfl ?_
  refine o_ex rfl rfl rfl ?_
  refine o_as rfl rfl ?_
  refine o_as rfl rfl ?_
  refine o_nil (q_then (c_region ?_))
  refine o_mv rfl rfl ?_
  refine o_mv rfl rfl ?_
  refine o_p (p_fieldAddr (j' := 0) rfl fo24_0 rfl) ?_
  refine o_p (p_load (i := 1) (v := Vi f.size) rfl rfl sh3 rfl) ?_
  refine o_call0 (v := Vi (Hash.rawFold (Hash.salted s (toU (k : Int))) f.size)) rfl (rawFold_ok (Hash.salted s (toU (k : Int))) f.size) hf54 (fun _ _ => trivial) rfl ?_
  refine o_buildSlice (m := 1) (T := tInt) (L := [(Hash.rawFold (Hash.salted s (toU (k : Int))) f.size)]) (vs := [Vi (Hash.rawFold (Hash.salted s (toU (k : Int))) f.size)]) rfl rfl rfl rfl Try.underlying22 sz3 (by decide) ze3 rfl (by decide) rfl (fun S5 a6 => ?_)
  refine o_append (i := 1) (L := out) (M := [(Hash.rawFold (Hash.salted s (toU (k : Int))) f.size)]) (T := tInt) rfl rfl rfl (rd_own (i := 0) rfl) Try.underlying22 Try.underlying22 (by intro k h; cases h) el3 (by intro z; simp [tInt, one1]) (by decide) (by first | omega | (simp only [List.length_cons, List.length_nil]; omega) | (simp only [List.length_append, List.length_cons, List.length_nil, List.length_take, List.length_drop]; omega)) rfl (fun a8 c9 S10 => ?_)
  refine o_as rfl rfl ?_
  refine o_nil ?_
  refine q_block_normal (q_then ?_)
  refine c_region ?_
  refine o_p (p_addb rfl rfl (by omega)) ?_
  refine o_mv rfl rfl ?_
  refine o_nil ?_
  refine q_round hK3 ((out ++ [(Hash.rawFold (Hash.salted s (toU (k : Int))) f.size)]), a8, c9, S10, k + 1) ?_ ?_ ?_ ?_
  ·clear hK3
   exact ⟨by omega, by rw [hI.2, List.range_succ, List.map_append]; rfl⟩
  ·(try dsimp only); omega
  ·exact sr (sr (sr (sr (sr (Sub.nil _)))))
  ·exact pk [1, 2, 3]
 ·simp only [decide_eq_false_iff_not, Int.not_lt] at hc4
  refine c_exit ?_
  refine q_then_exit (q_then_exit (q_block_exit (q_then ?_)))
  refine c_seq (c_region ?_)
  refine o_mv rfl rfl ?_
  refine o_callX (pre := [own tInt Sout aout cout out]) (R := [box B1 [Vi f.size, Vi f.hashes, .slice af_0 f.set.length cf_0] 24, base w0]) rfl (bonce_ok out aout cout Sout) hf36 rfl (fun _ _ => trivial) rfl ?_
  rintro ⟨a11, c12, S13⟩
  refine o_asH (H' := [own tInt S13 a11 c12 (Bl.once out), box B1 [Vi f.size, Vi f.hashes, .slice af_0 f.set.length cf_0] 24, base w0]) rfl ?_
  refine o_as rfl rfl ?_
  refine o_nil (q_then (c_ret ?_))
  have hr0 : ((Bl.once out) : List Int) = (Bl.places f s) := by
   (rw [hI.2, show k = f.hashes.toNat by omega]; rfl)
  refine q_endM (p := (a11, c12)) S13 (rt1 rfl (r_tmp rfl)) (i := 2) rfl ?_ ?_ ?_
  ·exact (by have hcc := congrArg (fun (y0 : List Int) => (.slice a11 y0.length c12 : Value)) hr0; exact hcc)
  ·exact fun w hw => hw.above (i := 2) (j := 0) (by decide) rfl rfl
  ·intro w hw; exact Eq.mp (congrArg (fun y => SlO tInt _ w a11 c12 y) hr0) ((hw.at (i := 0) rfl).here)

set_option maxHeartbeats 8000000 in
set_option maxRecDepth 100000 in
theorem bcheckK_ok (f : DFilter) (af_0 : Option Addr) (cf_0 : Nat) (s : ByteArray) : Fn0 Try.prog 30 [.agg #[Vi f.size, Vi f.hashes, .slice af_0 f.set.length cf_0], .string s] (fun w => Rd tInt w af_0 cf_0 f.set) (Vi (Bl.keyErr f s)) := by
 refine fn0 (nt := 19) (F0 := [(0, .agg #[Vi f.size, Vi f.hashes, .slice af_0 f.set.length cf_0]), (1, .string s)]) Try.func30 rfl Try.ntmps30 rfl rfl (fun w0 hpre => ?_)
 have hf_0 := hpre
 have hlhf_0 := hf_0.2.1
 refine c_seq (c_region ?_)
 refine o_box (v := .agg #[Vi f.size, Vi f.hashes, .slice af_0 f.set.length cf_0]) rfl rfl (fun B1 => ?_)
 refine o_as rfl rfl ?_
 refine o_nil (q_then (c_seq (c_seq (c_region ?_))))
 refine o_p (p_load_agg (i := 0) (vs := [Vi f.size, Vi f.hashes, .slice af_0 f.set.length cf_0]) rfl rfl sh24 rfl rfl) ?_
 refine o_call0 (v := Vi (Bl.check f)) rfl (bcheck_ok f af_0 cf_0) hf21 (fun w hw => (rd_base (i := 1) rfl hf_0) w hw) rfl ?_
 refine o_as rfl rfl ?_
 refine o_nil (q_then (c_seq (c_region ?_)))
 refine o_mv rfl rfl ?_
 refine o_p (p_ne rfl rfl) ?_
 refine o_nil (q_then ?_)
 refine c_cond rfl (fun hc2 => ?_) (fun hc2 => ?_)
 ·simp only [bne_iff_ne, ne_eq] at hc2
  refine c_seq (c_region ?_)
  refine o_mv rfl rfl ?_
  refine o_as rfl rfl ?_
  refine o_nil (q_then (c_ret ?_))
  refine q_then_ret ?_
  have hr0 : ((Bl.check f) : Int) = (Bl.keyErr f s) := by
   first | exact Bl.ke1 s (by assumption) | exact Bl.ke2 (by assumption)
  refine q_end0 (v := Vi (Bl.check f)) (rt1 rfl (r_tmp rfl)) (i := 1) rfl ?_
  exact (by have hcc := congrArg (fun (y0 : Int) => (.int .i64 y0 : Value)) hr0; exact hcc)
 ·simp only [bne_eq_false_iff_eq] at hc2
  refine c_skip (q_then (c_seq (c_region ?_)))
  refine o_mv rfl rfl ?_
  refine o_call0 (v := .tuple #[.int .u64 ((Hash.sum s).toNat : Int), Vi (Hash.sumErr s)]) rfl (sumN_ok s) hf52 (fun _ _ => trivial) rfl ?_
  refine o_mv rfl rfl ?_
  refine o_ex rfl rfl rfl ?_
  refine o_ex rfl rfl rfl ?_
  refine o_as rfl rfl ?_
  refine o_as rfl rfl ?_
  refine o_nil (q_then (c_seq (c_region ?_)))
  refine o_mv rfl rfl ?_
  refine o_as rfl rfl ?_
  refine o_nil (q_then (c_ret ?_))
  have hr0 : ((Hash.sumErr s) : Int) = (Bl.keyErr f s) := by
   first | exact Bl.ke1 s (by assumption) | exact Bl.ke2 (by assumption)
  refine q_end0 (v := Vi (Hash.sumErr s)) (rt1 rfl (r_tmp rfl)) (i := 1) rfl ?_
  exact (by have hcc := congrArg (fun (y0 : Int) => (.int .i64 y0 : Value)) hr0; exact hcc)

set_option maxHeartbeats 8000000 in
set_option maxRecDepth 100000 in
theorem bbits_ok (f : DFilter) (af_0 : Option Addr) (cf_0 : Nat) (s : ByteArray) : FnM Try.prog 10 [.agg #[Vi f.size, Vi f.hashes, .slice af_0 f.set.length cf_0], .string s] (fun w => Rd tInt w af_0 cf_0 f.set) (Option Addr × Nat) (fun p => .tuple #[.slice p.1 (Bl.bits f s).length p.2, Vi (Bl.keyErr f s)]) (fun p S w => SlO tInt S w p.1 p.2 (Bl.bits f s)) := by
 refine fnM (nt := 16) (F0 := [(0, .agg #[Vi f.size, Vi f.hashes, .slice af_0 f.set.length cf_0]), (1, .string s)]) Try.func10 rfl Try.ntmps10 rfl rfl (fun w0 hpre => ?_)
 have hf_0 := hpre
 have hlhf_0 := hf_0.2.1
 refine c_seq (c_region ?_)
 refine o_box (v := .agg #[Vi f.size, Vi f.hashes, .slice af_0 f.set.length cf_0]) rfl rfl (fun B1 => ?_)
 refine o_as rfl rfl ?_
 refine o_as rfl rfl ?_
 refine o_nil (q_then (c_seq (c_seq (c_region ?_))))
 refine o_p (p_load_agg (i := 0) (vs := [Vi f.size, Vi f.hashes, .slice af_0 f.set.length cf_0]) rfl rfl sh24 rfl rfl) ?_
 refine o_mv rfl rfl ?_
 refine o_call0 (v := Vi (Bl.keyErr f s)) rfl (bcheckK_ok f af_0 cf_0 s) hf30 (fun w hw => (rd_base (i := 1) rfl hf_0) w hw) rfl ?_
 refine o_as rfl rfl ?_
 refine o_nil (q_then (c_seq (c_region ?_)))
 refine o_mv rfl rfl ?_
 refine o_p (p_ne rfl rfl) ?_
 refine o_nil (q_then ?_)
 refine c_cond rfl (fun hc2 => ?_) (fun hc2 => ?_)
 ·simp only [bne_iff_ne, ne_eq] at hc2
  refine c_seq (c_region ?_)
  refine o_mv rfl rfl ?_
  refine o_as rfl rfl ?_
  refine o_as rfl rfl ?_
  refine o_nil (q_then (c_ret ?_))
  refine q_then_ret ?_
  have hr0 : ([] : List Int) = (Bl.bits f s) := by
   first | exact (Bl.bits_bad (by assumption)).symm | exact (Bl.bits_ok hke).symm | exact hke.symm | rfl
  refine q_endM (p := (none, 0)) (fun _ => False) (rt2 rfl (r_tmp rfl) (r_tmp rfl)) (i := 1) rfl ?_ ?_ ?_
  ·exact (by have hcc := congrArg (fun (y0 : List Int) => (.tuple #[.slice none y0.length 0, Vi (Bl.keyErr f s)] : Value)) hr0; exact hcc)
  ·intro w hw b hb; exact hb.elim
  ·intro w hw; exact Eq.mp (congrArg (fun y => SlO tInt _ w none 0 y) hr0) (SlO.nil tInt w)
 ·simp only [bne_eq_false_iff_eq] at hc2
  have hke := hc2
  have hko := Bl.key_ok hc2
  have hok := hko.1
  have hsz := hok.size
  have hha := hok.hashes
  have hln := hok.len
  have hpl := Bl.places_len f s
  have hup := hok.up
  refine c_skip (q_then (c_seq (c_region ?_)))
  refine o_p (p_load_agg (i := 0) (vs := [Vi f.size, Vi f.hashes, .slice af_0 f.set.length cf_0]) rfl rfl sh24 rfl rfl) ?_
  refine o_mv rfl rfl ?_
  refine o_callM rfl (bplaces_ok f af_0 cf_0 s (by first | assumption | exact ⟨hok, hko.2⟩)) hf31 (fun w hw => (rd_base (i := 1) rfl hf_0) w hw) rfl (fun _ _ _ _ ha hA => SlO.agree ha hA) ?_
  rintro ⟨a5, c6⟩ S3
  refine o_know (fun w hw => own_len (i := 0) (T := tInt) hw rfl) (fun hlr7 => ?_)
  refine o_as rfl rfl ?_
  refine o_as rfl rfl ?_
  refine o_nil (q_then (c_ret ?_))
  have hr0 : ((Bl.places f s) : List Int) = (Bl.bits f s) := by
   first | exact (Bl.bits_bad (by assumption)).symm | exact (Bl.bits_ok hke).symm | exact hke.symm | rfl
  have hr1 : (0 : Int) = (Bl.keyErr f s) := by
   first | exact (Bl.bits_bad (by assumption)).symm | exact (Bl.bits_ok hke).symm | exact hke.symm | rfl
  refine q_endM (p := (a5, c6)) S3 (rt2 rfl (r_tmp rfl) (r_tmp rfl)) (i := 2) rfl ?_ ?_ ?_
  ·exact (by have hcc := congr (congrArg (fun (y0 : List Int) (y1 : Int) => (.tuple #[.slice a5 y0.length c6, .int .i64 y1] : Value)) hr0) hr1; exact hcc)
  ·exact fun w hw => hw.above (i := 2) (j := 0) (by decide) rfl rfl
  ·intro w hw; exact Eq.mp (congrArg (fun y => SlO tInt _ w a5 c6 y) hr0) ((hw.at (i := 0) rfl).here)

set_option maxHeartbeats 8000000 in
set_option maxRecDepth 100000 in
theorem bwith_ok (f : DFilter) (af_0 : Option Addr) (cf_0 : Nat) (l : List Int) (al : Option Addr) (cl : Nat) (hy1 : f.set.length ≤ 2000 ∧ l.length ≤ 2000) : FnM Try.prog 32 [.agg #[Vi f.size, Vi f.hashes, .slice af_0 f.set.length cf_0], .slice al l.length cl] (fun w => Rd tInt w af_0 cf_0 f.set ∧ Rd tInt w al cl l) (Option Addr × Nat) (fun p => .agg #[Vi f.size, Vi f.hashes, .slice p.1 (Bl.once (f.set ++ l)).length p.2]) (fun p S w => SlO tInt S w p.1 p.2 (Bl.once (f.set ++ l))) := by
 refine fnM (nt := 13) (F0 := [(0, .agg #[Vi f.size, Vi f.hashes, .slice af_0 f.set.length cf_0]), (1, .slice al l.length cl)]) Try.func32 rfl Try.ntmps32 rfl rfl (fun w0 hpre => ?_)
 obtain ⟨hf_0, hl⟩ := hpre
 have hlhf_0 := hf_0.2.1
 have hlhl := hl.2.1
 refine c_seq (c_region ?_)
 refine o_box (v := .agg #[Vi f.size, Vi f.hashes, .slice af_0 f.set.length cf_0]) rfl rfl (fun B1 => ?_)
 refine o_alloc ze24 rfl (fun B2 => ?_)
 refine o_nil (q_then (c_seq (c_region ?_)))
 refine o_p (p_fieldAddr (j' := 2) rfl fo24_2 rfl) ?_
 refine o_p (p_load (i := 1) (v := .slice af_0 f.set.length cf_0) rfl rfl sh22 rfl) ?_
 refine o_mv rfl rfl ?_
 refine o_buildSlice (m := 2) (T := tHdr) (L := [(⟨af_0, cf_0, f.set⟩ : Hdr), (⟨al, cl, l⟩ : Hdr)]) (vs := [.slice af_0 f.set.length cf_0, .slice al l.length cl]) rfl rfl rfl rfl Try.underlying112 sz22 (by decide) ze22 rfl (by decide) rfl (fun S3 a4 => ?_)
 refine o_callM rfl (concat2_ok f.set af_0 cf_0 l al cl a4 ([(⟨af_0, cf_0, f.set⟩ : Hdr), (⟨al, cl, l⟩ : Hdr)].length) (by first | omega | (simp only [List.length_append]; omega))) hf55 (fun w hw => ⟨(rd_own (i := 0) rfl) w hw, (rd_base (i := 3) rfl hf_0) w hw, (rd_base (i := 3) rfl hl) w hw⟩) rfl (fun _ _ _ _ ha hA => SlO.agree ha hA) ?_
 rintro ⟨a8, c9⟩ S6
 refine o_know (fun w hw => own_len (i := 0) (T := tInt) hw rfl) (fun hlr10 => ?_)
 refine o_callX (pre := [own tInt S6 a8 c9 (f.set ++ l)]) (R := [own tHdr S3 a4 ([(⟨af_0, cf_0, f.set⟩ : Hdr), (⟨al, cl, l⟩ : Hdr)].length) ([(⟨af_0, cf_0, f.set⟩ : Hdr), (⟨al, cl, l⟩ : Hdr)]), box B2 [Vi 0, Vi 0, .slice none 0 0] 24, box B1 [Vi f.size, Vi f.hashes, .slice af_0 f.set.length cf_0] 24, base w0]) rfl (bonce_ok (f.set ++ l) a8 c9 S6) hf36 rfl (fun _ _ => trivial) rfl ?_
 rintro ⟨a11, c12, S13⟩
 refine o_asH (H' := [own tInt S13 a11 c12 (Bl.once (f.set ++ l)), own tHdr S3 a4 ([(⟨af_0, cf_0, f.set⟩ : Hdr), (⟨al, cl, l⟩ : Hdr)].length) ([(⟨af_0, cf_0, f.set⟩ : Hdr), (⟨al, cl, l⟩ : Hdr)]), box B2 [Vi 0, Vi 0, .slice none 0 0] 24, box B1 [Vi f.size, Vi f.hashes, .slice af_0 f.set.length cf_0] 24, base w0]) rfl ?_
 refine o_p (p_fieldAddr (j' := 2) rfl fo24_2 rfl) ?_
 refine o_store (i := 3) (v := .slice a11 (Bl.once (f.set ++ l)).length c12) (cs' := [Vi f.size, Vi f.hashes, .slice a11 (Bl.once (f.set ++ l)).length c12]) rfl rfl rfl sz22 rfl rfl rfl ?_
 refine o_nil (q_then (c_seq (c_region ?_)))
 refine o_p (p_load_agg (i := 3) (vs := [Vi f.size, Vi f.hashes, .slice a11 (Bl.once (f.set ++ l)).length c12]) rfl rfl sh24 rfl rfl) ?_
 refine o_storeN (i := 2) (vs := [Vi f.size, Vi f.hashes, .slice a11 (Bl.once (f.set ++ l)).length c12]) (cs' := [Vi f.size, Vi f.hashes, .slice a11 (Bl.once (f.set ++ l)).length c12]) rfl rfl rfl sz24 rfl rfl rfl rfl ?_
 refine o_nil (q_then (c_ret ?_))
 refine q_endM (p := (a11, c12)) S13 (rt1 rfl (r_cell (i := 2) rfl rfl sh24 rfl)) (i := 4) rfl ?_ ?_ ?_
 ·exact rfl
 ·exact fun w hw => hw.above (i := 4) (j := 0) (by decide) rfl rfl
 ·intro w hw; exact (hw.at (i := 0) rfl).here

set_option maxHeartbeats 8000000 in
set_option maxRecDepth 100000 in
theorem badd_ok (f : DFilter) (af_0 : Option Addr) (cf_0 : Nat) (s : ByteArray) : FnM Try.prog 11 [.agg #[Vi f.size, Vi f.hashes, .slice af_0 f.set.length cf_0], .string s] (fun w => Rd tInt w af_0 cf_0 f.set) (Option Addr × Nat) (fun p => .tuple #[.agg #[Vi ((Bl.add f s).size), Vi ((Bl.add f s).hashes), .slice p.1 ((Bl.add f s).set).length p.2], Vi (Bl.keyErr f s)]) (fun p S w => SlO tInt S w p.1 p.2 ((Bl.add f s).set)) := by
 refine fnM (nt := 19) (F0 := [(0, .agg #[Vi f.size, Vi f.hashes, .slice af_0 f.set.length cf_0]), (1, .string s)]) Try.func11 rfl Try.ntmps11 rfl rfl (fun w0 hpre => ?_)
 have hf_0 := hpre
 have hlhf_0 := hf_0.2.1
 refine c_seq (c_region ?_)
 refine o_box (v := .agg #[Vi f.size, Vi f.hashes, .slice af_0 f.set.length cf_0]) rfl rfl (fun B1 => ?_)
 refine o_alloc ze24 rfl (fun B2 => ?_)
 refine o_as rfl rfl ?_
 refine o_nil (q_then (c_seq (c_seq (c_region ?_))))
 refine o_p (p_load_agg (i := 1) (vs := [Vi f.size, Vi f.hashes, .slice af_0 f.set.length cf_0]) rfl rfl sh24 rfl rfl) ?_
 refine o_mv rfl rfl ?_
 refine o_call0 (v := Vi (Bl.keyErr f s)) rfl (bcheckK_ok f af_0 cf_0 s) hf30 (fun w hw => (rd_base (i := 2) rfl hf_0) w hw) rfl ?_
 refine o_as rfl rfl ?_
 refine o_nil (q_then (c_seq (c_region ?_)))
 refine o_mv rfl rfl ?_
 refine o_p (p_ne rfl rfl) ?_
 refine o_nil (q_then ?_)
 refine c_cond rfl (fun hc3 => ?_) (fun hc3 => ?_)
 ·simp only [bne_iff_ne, ne_eq] at hc3
  refine c_seq (c_region ?_)
  refine o_p (p_build (cells := [Vi 0, Vi 0, .slice none 0 0]) fp24 ze24 rfl rfl) ?_
  refine o_mv rfl rfl ?_
  refine o_storeN (i := 0) (vs := [Vi 0, Vi 0, .slice none 0 0]) (cs' := [Vi 0, Vi 0, .slice none 0 0]) rfl rfl rfl sz24 rfl rfl rfl rfl ?_
  refine o_as rfl rfl ?_
  refine o_nil (q_then (c_ret ?_))
  refine q_then_ret ?_
  have hr0 : (0 : Int) = (Bl.add f s).size := by
   first | (rw [Bl.add_bad (f := f) (s := s) (by assumption)]; done) | (rw [Bl.add_bad (f := f) (s := s) (by assumption)]; rfl) | (rw [Bl.add_ok hke]; done) | (rw [Bl.add_ok hke]; rfl) | exact hke.symm | rfl
  have hr1 : (0 : Int) = (Bl.add f s).hashes := by
   first | (rw [Bl.add_bad (f := f) (s := s) (by assumption)]; done) | (rw [Bl.add_bad (f := f) (s := s) (by assumption)]; rfl) | (rw [Bl.add_ok hke]; done) | (rw [Bl.add_ok hke]; rfl) | exact hke.symm | rfl
  have hr2 : ([] : List Int) = (Bl.add f s).set := by
   first | (rw [Bl.add_bad (f := f) (s := s) (by assumption)]; done) | (rw [Bl.add_bad (f := f) (s := s) (by assumption)]; rfl) | (rw [Bl.add_ok hke]; done) | (rw [Bl.add_ok hke]; rfl) | exact hke.symm | rfl
  refine q_endM (p := (none, 0)) (fun _ => False) (rt2 rfl (r_cell (i := 0) rfl rfl sh24 rfl) (r_tmp rfl)) (i := 2) rfl ?_ ?_ ?_
  ·exact (by have hcc := congr (congr (congrArg (fun (y0 : Int) (y1 : Int) (y2 : List Int) => (.tuple #[.agg #[.int .i64 y0, .int .i64 y1, .slice none y2.length 0], Vi (Bl.keyErr f s)] : Value)) hr0) hr1) hr2; exact hcc)
  ·intro w hw b hb; exact hb.elim
  ·intro w hw; exact Eq.mp (congrArg (fun y => SlO tInt _ w none 0 y) hr2) (SlO.nil tInt w)
 ·simp only [bne_eq_false_iff_eq] at hc3
  have hke := hc3
  have hko := Bl.key_ok hc3
  have hok := hko.1
  have hsz := hok.size
  have hha := hok.hashes
  have hln := hok.len
  have hpl := Bl.places_len f s
  have hup := hok.up
  refine c_skip (q_then (c_seq ?_))
  refine c_held hmix [box B1 [Vi f.size, Vi f.hashes, .slice af_0 f.set.length cf_0] 24, base w0] rfl rfl ?_
  refine h_tk (i := 0) (ls := #[T1,F0,F0,F0,F0,F0,F0]) rfl (p_load_agg (i := 0) (vs := [Vi f.size, Vi f.hashes, .slice af_0 f.set.length cf_0]) rfl rfl sh24 rfl rfl) (dp (lz (lj (lj (ln))))) ?_
  refine h_tk (i := 1) (ls := #[T1,T1,F0,F0,F0,F0,F0]) rfl (p_load_agg (i := 0) (vs := [Vi f.size, Vi f.hashes, .slice af_0 f.set.length cf_0]) rfl rfl sh24 rfl rfl) (dp (lz (lj (lj (ln))))) ?_
  refine h_tk (i := 2) (ls := #[T1,T1,T1,F0,F0,F0,F0]) rfl (p_move rfl) (dp (lz (lj (lj (ln))))) ?_
  refine h_one (i := 3) (ls := #[T1,T1,T1,T1,F0,F0,F0]) (by kernel_rfl) rfl rfl ?_
  refine o_callM rfl (bplaces_ok f af_0 cf_0 s (by first | assumption | exact ⟨hok, hko.2⟩)) hf31 (fun w hw => (rd_base (i := 2) rfl hf_0) w hw) rfl (fun _ _ _ _ ha hA => SlO.agree ha hA) ?_
  rintro ⟨a4_3, c4_3⟩ S4_3
  refine o_know (fun w hw => own_len (i := 0) (T := tInt) hw rfl) (fun hlr4_3 => ?_)
  refine o_nil ?_
  refine h_next (dp (lz (lz (lj (lj (ln)))))) ?_
  refine h_one (i := 4) (ls := #[T1,T1,T1,T1,T1,F0,F0]) (by kernel_rfl) rfl rfl ?_
  refine o_callM rfl (bwith_ok f af_0 cf_0 (Bl.places f s) a4_3 c4_3 (by omega)) hf32 (fun w hw => ⟨(rd_base (i := 3) rfl hf_0) w hw, (rd_own (i := 0) rfl) w hw⟩) rfl (fun _ _ _ _ ha hA => SlO.agree ha hA) ?_
  rintro ⟨a4_4, c4_4⟩ S4_4
  refine o_know (fun w hw => own_len (i := 0) (T := tInt) hw rfl) (fun hlr4_4 => ?_)
  refine o_nil ?_
  refine h_next (dp (lz (lz (lz (lj (lj (ln))))))) ?_
  refine h_one (i := 5) (ls := #[T1,T1,T1,T1,T1,T1,F0]) (by kernel_rfl) rfl rfl ?_
  refine o_storeN (i := 2) (vs := [Vi f.size, Vi f.hashes, .slice a4_4 (Bl.once (f.set ++ (Bl.places f s))).length c4_4]) (cs' := [Vi f.size, Vi f.hashes, .slice a4_4 (Bl.once (f.set ++ (Bl.places f s))).length c4_4]) rfl rfl rfl sz24 rfl rfl rfl rfl ?_
  refine o_nil ?_
  refine h_next (dp (lz (lz (lz (lj (lj (ln))))))) ?_
  refine h_tk (i := 6) (ls := #[T1,T1,T1,T1,T1,T1,T1]) rfl (p_assign rfl) (dp (lz (lz (lz (lj (lj (ln))))))) ?_
  refine h_done (by kernel_rfl) ?_
  refine q_then (c_ret ?_)
  have hr0 : (f.size : Int) = (Bl.add f s).size := by
   first | (rw [Bl.add_bad (f := f) (s := s) (by assumption)]; done) | (rw [Bl.add_bad (f := f) (s := s) (by assumption)]; rfl) | (rw [Bl.add_ok hke]; done) | (rw [Bl.add_ok hke]; rfl) | exact hke.symm | rfl
  have hr1 : (f.hashes : Int) = (Bl.add f s).hashes := by
   first | (rw [Bl.add_bad (f := f) (s := s) (by assumption)]; done) | (rw [Bl.add_bad (f := f) (s := s) (by assumption)]; rfl) | (rw [Bl.add_ok hke]; done) | (rw [Bl.add_ok hke]; rfl) | exact hke.symm | rfl
  have hr2 : (Bl.once (f.set ++ (Bl.places f s)) : List Int) = (Bl.add f s).set := by
   first | (rw [Bl.add_bad (f := f) (s := s) (by assumption)]; done) | (rw [Bl.add_bad (f := f) (s := s) (by assumption)]; rfl) | (rw [Bl.add_ok hke]; done) | (rw [Bl.add_ok hke]; rfl) | exact hke.symm | rfl
  have hr3 : (0 : Int) = (Bl.keyErr f s) := by
   first | (rw [Bl.add_bad (f := f) (s := s) (by assumption)]; done) | (rw [Bl.add_bad (f := f) (s := s) (by assumption)]; rfl) | (rw [Bl.add_ok hke]; done) | (rw [Bl.add_ok hke]; rfl) | exact hke.symm | rfl
  refine q_endM (p := (a4_4, c4_4)) S4_4 (rt2 rfl (r_cell (i := 2) rfl rfl sh24 rfl) (r_tmp rfl)) (i := 4) rfl ?_ ?_ ?_
  ·exact (by have hcc := congr (congr (congr (congrArg (fun (y0 : Int) (y1 : Int) (y2 : List Int) (y3 : Int) => (.tuple #[.agg #[.int .i64 y0, .int .i64 y1, .slice a4_4 y2.length c4_4], .int .i64 y3] : Value)) hr0) hr1) hr2) hr3; exact hcc)
  ·exact fun w hw => hw.above (i := 4) (j := 0) (by decide) rfl rfl
  ·intro w hw; exact Eq.mp (congrArg (fun y => SlO tInt _ w a4_4 c4_4 y) hr2) ((hw.at (i := 0) rfl).here)
end Go.Proofs.Ytfncgfcehkalnaa

/- The walks, printed by a program from the translation and a specification. -/
namespace Go.Proofs.Ytfncgfcehkalnaa
open Go.Sx Go.RowKit
set_option maxHeartbeats 8000000 in
set_option maxRecDepth 100000 in
theorem isNaN_ok (x : Int) : Fn0 Try.prog 74 [Vi x] (fun _ => True) (.bool false) := by
 refine fn0 (nt := 6) (F0 := [(0, Vi x)]) Try.func74 rfl Try.ntmps74 rfl rfl (fun w0 hpre => ?_)
 refine c_seq (c_region ?_)
 refine o_as rfl rfl ?_
 refine o_nil (q_then (c_seq (c_region ?_)))
 refine o_mv rfl rfl ?_
 refine o_mv rfl rfl ?_
 refine o_p (p_ne rfl rfl) ?_
 refine o_as rfl rfl ?_
 refine o_nil (q_then (c_ret ?_))
 have hr0 : ((x != x) : Bool) = false := by
  simp
 refine q_end0 (v := .bool (x != x)) (rt1 rfl (r_tmp rfl)) (i := 0) rfl ?_
 exact (by have hcc := congrArg (fun (y0 : Bool) => (.bool y0 : Value)) hr0; exact hcc)

set_option maxHeartbeats 8000000 in
set_option maxRecDepth 100000 in
theorem isNaN2_ok (x : Int) : Fn0 Try.prog 58 [Vi x] (fun _ => True) (.bool false) := by
 refine fn0 (nt := 6) (F0 := [(0, Vi x)]) Try.func58 rfl Try.ntmps58 rfl rfl (fun w0 hpre => ?_)
 refine c_seq (c_region ?_)
 refine o_as rfl rfl ?_
 refine o_nil (q_then (c_seq (c_region ?_)))
 refine o_mv rfl rfl ?_
 refine o_mv rfl rfl ?_
 refine o_p (p_ne rfl rfl) ?_
 refine o_as rfl rfl ?_
 refine o_nil (q_then (c_ret ?_))
 have hr0 : ((x != x) : Bool) = false := by
  simp
 refine q_end0 (v := .bool (x != x)) (rt1 rfl (r_tmp rfl)) (i := 0) rfl ?_
 exact (by have hcc := congrArg (fun (y0 : Bool) => (.bool y0 : Value)) hr0; exact hcc)

set_option maxHeartbeats 8000000 in
set_option maxRecDepth 100000 in
theorem less_ok (x : Int) (y : Int) : Fn0 Try.prog 57 [Vi x, Vi y] (fun _ => True) (.bool (decide (x < y))) := by
 refine fn0 (nt := 17) (F0 := [(0, Vi x), (1, Vi y)]) Try.func57 rfl Try.ntmps57 rfl rfl (fun w0 hpre => ?_)
 refine c_seq (c_region ?_)
 refine o_as rfl rfl ?_
 refine o_nil (q_then (c_seq (c_region ?_)))
 refine o_mv rfl rfl ?_
 refine o_call0 (v := .bool false) rfl (isNaN_ok x) hf74 (fun _ _ => trivial) rfl ?_
 refine o_mv rfl rfl ?_
 refine o_guard_no rfl 7 rfl rfl rfl rfl rfl ?_
 refine o_guard_no rfl 7 rfl rfl rfl rfl rfl ?_
 refine o_guard_no rfl 7 rfl rfl rfl rfl rfl ?_
 refine o_pf rfl rfl rfl ?_
 refine o_mv rfl rfl ?_
 refine o_unguard 12 rfl rfl ?_
 refine o_mv rfl rfl ?_
 refine o_unguard 12 rfl rfl ?_
 refine o_mv rfl rfl ?_
 refine o_unguard 12 rfl rfl ?_
 refine o_p (p_lt rfl rfl) ?_
 refine o_pf rfl rfl rfl ?_
 refine o_as rfl rfl ?_
 refine o_nil (q_then (c_ret ?_))
 refine q_end0 (v := .bool (decide (x < y))) (rt1 rfl (r_tmp rfl)) (i := 0) rfl ?_
 exact rfl

set_option maxHeartbeats 8000000 in
set_option maxRecDepth 100000 in
theorem bsearch_ok (l : List Int) (al : Option Addr) (cl : Nat) (target : Int) (hy1 : Split (fun x : Int => cmpI x target) l) : Fn0 Try.prog 35 [.slice al l.length cl, Vi target] (fun w => Rd tInt w al cl l) (.tuple #[Vi (lowF (fun x : Int => cmpI x target) l : Int), .bool (hitF (fun x : Int => cmpI x target) l)]) := by
 refine fn0 (nt := 54) (F0 := [(0, .slice al l.length cl), (1, Vi target)]) Try.func35 rfl Try.ntmps35 rfl rfl (fun w0 hpre => ?_)
 have hl := hpre
 have hlhl := hl.2.1
 refine c_seq (c_region ?_)
 refine o_as rfl rfl ?_
 refine o_as rfl rfl ?_
 refine o_nil (q_then (c_seq (c_region ?_)))
 refine o_mv rfl rfl ?_
 refine o_p (p_len_slice rfl rfl Try.underlying22) ?_
 refine o_as rfl rfl ?_
 refine o_nil (q_then (c_seq (c_region ?_)))
 refine o_mv rfl rfl ?_
 refine o_as rfl rfl ?_
 refine o_as rfl rfl ?_
 refine o_nil (q_then (c_seq (c_block ?_)))
 refine c_loop (St := Int × Int)
  (fun ⟨i, j⟩ => [(0, .slice al l.length cl), (1, Vi target), (6, Vi (l.length : Int)), (7, Vi i), (8, Vi j)])
  (fun ⟨i, j⟩ => [base w0])
  (fun ⟨i, j⟩ => LowI (fun x : Int => cmpI x target) l i j)
  (fun ⟨i, j⟩ => (j - i).toNat)
  (0, (l.length : Int)) ?_ (sr (sr (sr (sr (sr (Sub.nil _)))))) (fun _ hw => hw) ?_
 ·exact LowI.start _ _
 rintro ⟨i, j⟩ hI K hK1
 have h0 := hI.i0
 have h1 := hI.ij
 have h2 := hI.jl
 have hh := half_eq h0 h1 (by omega)
 show SC _ _ Try.prog 54 w0 _ _ [(0, .slice al l.length cl), (1, Vi target), (6, Vi (l.length : Int)), (7, Vi i), (8, Vi j)] [base w0]
 refine c_seq (c_seq (c_region ?_))
 refine o_mv rfl rfl ?_
 refine o_mv rfl rfl ?_
 refine o_p (p_lt rfl rfl) ?_
 refine o_nil (q_then ?_)
 refine c_cond rfl (fun hc2 => ?_) (fun hc2 => ?_)
 ·simp only [decide_eq_true_eq] at hc2
  refine c_skip (q_then (c_block (c_seq (c_region ?_))))
  refine o_mv rfl rfl ?_
  refine o_mv rfl rfl ?_
  refine o_p (p_addb rfl rfl (by omega)) ?_
  refine o_p (pu_conv (z := (i + j)) rfl Try.underlying3 Try.underlying88) ?_
  refine o_p (pu_shr (p := (toU (i + j))) (m := 1) rfl rfl (by decide)) ?_
  refine o_p (p_conv (z := ((shrU (toU (i + j)) 1).toNat : Int)) rfl Try.underlying88 Try.underlying3) ?_
  refine o_as rfl rfl ?_
  refine o_nil (q_then (c_seq (c_region ?_)))
  refine o_mv rfl rfl ?_
  refine o_mv rfl rfl ?_
  refine o_p (p_indexAddr (L := l) (T := tInt) (i := (IntKind.i64.wrap ((shrU (toU (i + j)) 1).toNat : Int))) rfl rfl (rd_base (i := 0) rfl hl) Try.underlying22 sz3 (by omega) (by omega)) ?_
  refine o_p (p_loadE1 (i := (IntKind.i64.wrap ((shrU (toU (i + j)) 1).toNat : Int)).toNat) (T := tInt) (L := l) (v := Vi (l.getD ((IntKind.i64.wrap ((shrU (toU (i + j)) 1).toNat : Int)).toNat) default)) rfl (rd_base (i := 0) rfl hl) (by first | assumption | omega) sh3 (congrArg tInt.enc (getd_at (by first | assumption | omega) default))) ?_
  refine o_mv rfl rfl ?_
  refine o_call0 (v := .bool (decide ((l.getD ((IntKind.i64.wrap ((shrU (toU (i + j)) 1).toNat : Int)).toNat) default) < target))) rfl (less_ok (l.getD ((IntKind.i64.wrap ((shrU (toU (i + j)) 1).toNat : Int)).toNat) default) target) hf57 (fun _ _ => trivial) rfl ?_
  refine o_nil (q_then ?_)
  refine c_cond rfl (fun hc3 => ?_) (fun hc3 => ?_)
  ·simp only [decide_eq_true_eq] at hc3
   refine c_region ?_
   refine o_mv rfl rfl ?_
   refine o_p (p_addb rfl rfl (by omega)) ?_
   refine o_as rfl rfl ?_
   refine o_nil ?_
   refine q_block_normal ?_
   refine q_round hK1 (((IntKind.i64.wrap ((shrU (toU (i + j)) 1).toNat : Int)) + 1), j) ?_ ?_ ?_ ?_
   ·clear hK1
    first | exact hI.up hy1 (by omega) (by omega) (by omega) (cmpI_neg.2 (by rw [getd_at (by omega) default]; assumption)) | exact hI.down hy1 (by omega) (by omega) (by omega) (Bl.cmp_ge (by rw [getd_at (by omega) default]; omega))
   ·(try dsimp only); omega
   ·exact sr (sr (sr (sr (sr (Sub.nil _)))))
   ·exact pk [0]
  ·simp only [decide_eq_false_iff_not, Int.not_lt] at hc3
   refine c_region ?_
   refine o_mv rfl rfl ?_
   refine o_as rfl rfl ?_
   refine o_nil ?_
   refine q_block_normal ?_
   refine q_round hK1 (i, (IntKind.i64.wrap ((shrU (toU (i + j)) 1).toNat : Int))) ?_ ?_ ?_ ?_
   ·clear hK1
    first | exact hI.up hy1 (by omega) (by omega) (by omega) (cmpI_neg.2 (by rw [getd_at (by omega) default]; assumption)) | exact hI.down hy1 (by omega) (by omega) (by omega) (Bl.cmp_ge (by rw [getd_at (by omega) default]; omega))
   ·(try dsimp only); omega
   ·exact sr (sr (sr (sr (sr (Sub.nil _)))))
   ·exact pk [0]
 ·simp only [decide_eq_false_iff_not, Int.not_lt] at hc2
  refine c_exit ?_
  refine q_then_exit (q_then_exit (q_block_exit (q_then ?_)))
  refine c_seq (c_region ?_)
  refine o_mv rfl rfl ?_
  refine o_mv rfl rfl ?_
  refine o_mv rfl rfl ?_
  refine o_p (p_lt rfl rfl) ?_
  refine o_mv rfl rfl ?_
  refine o_and (p := 53) 18 (((l.getD i.toNat default) == target) || false) ?_ ?_ ?_
  ·intro hb4 hk
   simp only [decide_eq_true_eq] at hb4
   refine o_unguard 35 rfl rfl ?_
   refine o_mv rfl rfl ?_
   refine o_unguard 35 rfl rfl ?_
   refine o_mv rfl rfl ?_
   refine o_unguard 35 rfl rfl ?_
   refine o_p (p_indexAddr (L := l) (T := tInt) (i := i) rfl rfl (rd_base (i := 0) rfl hl) Try.underlying22 sz3 (by omega) (by omega)) ?_
   refine o_unguard 35 rfl rfl ?_
   refine o_p (p_loadE1 (i := i.toNat) (T := tInt) (L := l) (v := Vi (l.getD i.toNat default)) rfl (rd_base (i := 0) rfl hl) (by first | assumption | omega) sh3 (congrArg tInt.enc (getd_at (by first | assumption | omega) default))) ?_
   refine o_unguard 35 rfl rfl ?_
   refine o_mv rfl rfl ?_
   refine o_unguard 35 rfl rfl ?_
   refine o_p (p_eq rfl rfl) ?_
   refine o_unguard 35 rfl rfl ?_
   refine o_mv rfl rfl ?_
   refine o_or (p := 52) 10 false ?_ ?_ ?_
   ·intro hb5 hk
    simp only [beq_eq_false_iff_ne, ne_eq] at hb5
    refine o_unguard 42 rfl rfl ?_
    refine o_mv rfl rfl ?_
    refine o_unguard 42 rfl rfl ?_
    refine o_mv rfl rfl ?_
    refine o_unguard 42 rfl rfl ?_
    refine o_p (p_indexAddr (L := l) (T := tInt) (i := i) rfl rfl (rd_base (i := 0) rfl hl) Try.underlying22 sz3 (by omega) (by omega)) ?_
    refine o_unguard 42 rfl rfl ?_
    refine o_p (p_loadE1 (i := i.toNat) (T := tInt) (L := l) (v := Vi (l.getD i.toNat default)) rfl (rd_base (i := 0) rfl hl) (by first | assumption | omega) sh3 (congrArg tInt.enc (getd_at (by first | assumption | omega) default))) ?_
    refine o_unguard 42 rfl rfl ?_
    refine o_call0 (v := .bool false) rfl (isNaN2_ok (l.getD i.toNat default)) hf58 (fun _ _ => trivial) rfl ?_
    refine o_unguard 42 rfl rfl ?_
    refine o_mv rfl rfl ?_
    refine o_guard_no rfl 48 rfl rfl rfl rfl rfl ?_
    refine o_guard_no rfl 48 rfl rfl rfl rfl rfl ?_
    refine o_unguard 42 rfl rfl ?_
    refine o_pf rfl rfl rfl ?_
    refine o_unguard 35 rfl rfl ?_
    refine o_pf rfl rfl rfl ?_
    exact o_sub (sr (Sub.skip rfl (Sub.skip rfl (Sub.skip rfl (Sub.skip rfl (Sub.skip rfl (Sub.skip rfl (Sub.skip rfl (Sub.skip rfl (Sub.skip rfl (Sub.skip rfl (Sub.skip rfl (Sub.refl _))))))))))))) hk
   ·intro hb5 hk
    refine o_guard_no rfl 42 rfl rfl rfl rfl rfl ?_
    refine o_guard_no rfl 42 rfl rfl rfl rfl rfl ?_
    refine o_guard_no rfl 42 rfl rfl rfl rfl rfl ?_
    refine o_guard_no rfl 42 rfl rfl rfl rfl rfl ?_
    refine o_guard_no rfl 42 rfl rfl rfl rfl rfl ?_
    refine o_guard_no rfl 42 rfl rfl rfl rfl rfl ?_
    refine o_guard_no rfl 48 rfl rfl rfl rfl rfl ?_
    refine o_guard_no rfl 48 rfl rfl rfl rfl rfl ?_
    refine o_guard_no rfl 42 rfl rfl rfl rfl rfl ?_
    refine o_unguard 35 rfl rfl ?_
    refine o_pt rfl rfl rfl ?_
    exact o_sub (sr (Sub.skip rfl (Sub.skip rfl (Sub.skip rfl (Sub.skip rfl (Sub.skip rfl (Sub.skip rfl (Sub.skip rfl (Sub.skip rfl (Sub.skip rfl (Sub.skip rfl (Sub.skip rfl (Sub.refl _))))))))))))) hk
   refine o_pt rfl rfl rfl ?_
   exact o_sub (sr (Sub.skip rfl (Sub.skip rfl (Sub.skip rfl (Sub.skip rfl (Sub.skip rfl (Sub.skip rfl (Sub.skip rfl (Sub.skip rfl (Sub.skip rfl (Sub.refl _))))))))))) hk
  ·intro hb4 hk
   refine o_guard_no rfl 35 rfl rfl rfl rfl rfl ?_
   refine o_guard_no rfl 35 rfl rfl rfl rfl rfl ?_
   refine o_guard_no rfl 35 rfl rfl rfl rfl rfl ?_
   refine o_guard_no rfl 35 rfl rfl rfl rfl rfl ?_
   refine o_guard_no rfl 35 rfl rfl rfl rfl rfl ?_
   refine o_guard_no rfl 35 rfl rfl rfl rfl rfl ?_
   refine o_guard_no rfl 35 rfl rfl rfl rfl rfl ?_
   refine o_guard_no rfl 42 rfl rfl rfl rfl rfl ?_
   refine o_guard_no rfl 42 rfl rfl rfl rfl rfl ?_
   refine o_guard_no rfl 42 rfl rfl rfl rfl rfl ?_
   refine o_guard_no rfl 42 rfl rfl rfl rfl rfl ?_
   refine o_guard_no rfl 42 rfl rfl rfl rfl rfl ?_
   refine o_guard_no rfl 42 rfl rfl rfl rfl rfl ?_
   refine o_guard_no rfl 48 rfl rfl rfl rfl rfl ?_
   refine o_guard_no rfl 48 rfl rfl rfl rfl rfl ?_
   refine o_guard_no rfl 42 rfl rfl rfl rfl rfl ?_
   refine o_guard_no rfl 35 rfl rfl rfl rfl rfl ?_
   refine o_pf rfl rfl rfl ?_
   exact o_sub (sr (Sub.skip rfl (Sub.skip rfl (Sub.skip rfl (Sub.skip rfl (Sub.skip rfl (Sub.skip rfl (Sub.skip rfl (Sub.skip rfl (Sub.skip rfl (Sub.skip rfl (Sub.skip rfl (Sub.skip rfl (Sub.skip rfl (Sub.skip rfl (Sub.skip rfl (Sub.skip rfl (Sub.skip rfl (Sub.skip rfl (Sub.skip rfl (Sub.refl _))))))))))))))))))))) hk
  refine o_as rfl rfl ?_
  refine o_as rfl rfl ?_
  refine o_nil (q_then (c_ret ?_))
  have hr0 : (i : Int) = (lowF (fun x : Int => cmpI x target) l : Int) := by
   exact hI.done (by omega)
  have hr1 : ((decide (i < (l.length : Int)) && (((l.getD i.toNat default) == target) || false)) : Bool) = (hitF (fun x : Int => cmpI x target) l) := by
   exact Bl.hit_eq2 (hI.done (by omega))
  refine q_end0 (v := .tuple #[Vi i, .bool (decide (i < (l.length : Int)) && (((l.getD i.toNat default) == target) || false))]) (rt2 rfl (r_tmp rfl) (r_tmp rfl)) (i := 0) rfl ?_
  exact (by have hcc := congr (congrArg (fun (y0 : Int) (y1 : Bool) => (.tuple #[.int .i64 y0, .bool y1] : Value)) hr0) hr1; exact hcc)

set_option maxHeartbeats 8000000 in
set_option maxRecDepth 100000 in
theorem mayc1_ok (at_ : Int) (Bf : Nat) (f : DFilter) (af_0 : Option Addr) (cf_0 : Nat) (hy1 : Bl.Up f.set) : Fn0 Try.prog 34 [Vi at_, .pointer (some ⟨Bf, 0, none⟩)] (fun w => Rd tInt w af_0 cf_0 f.set ∧ (box Bf [Vi f.size, Vi f.hashes, .slice af_0 f.set.length cf_0] 24).A w) (.bool (!decide (at_ ∈ f.set))) := by
 refine fn0 (nt := 15) (F0 := [(0, Vi at_), (1, .pointer (some ⟨Bf, 0, none⟩))]) Try.func34 rfl Try.ntmps34 rfl rfl (fun w0 hpre => ?_)
 obtain ⟨hf_0, hBf⟩ := hpre
 have hlhf_0 := hf_0.2.1
 refine c_seq (c_region ?_)
 refine o_as rfl rfl ?_
 refine o_nil (q_then (c_seq (c_region ?_)))
 refine o_p (p_fieldAddr (j' := 2) rfl fo24_2 rfl) ?_
 refine o_p (p_loadR (v := .slice af_0 f.set.length cf_0) rfl (rbox_base (i := 0) rfl hBf) sh22 rfl) ?_
 refine o_mv rfl rfl ?_
 refine o_call0 (v := .tuple #[Vi (lowF (fun x : Int => cmpI x at_) f.set : Int), .bool (hitF (fun x : Int => cmpI x at_) f.set)]) rfl (bsearch_ok f.set af_0 cf_0 at_ (by first | assumption | exact Bl.split_up hy1 _)) hf35 (fun w hw => (rd_base (i := 0) rfl hf_0) w hw) rfl ?_
 refine o_mv rfl rfl ?_
 refine o_ex rfl rfl rfl ?_
 refine o_ex rfl rfl rfl ?_
 refine o_as rfl rfl ?_
 refine o_as rfl rfl ?_
 refine o_nil (q_then (c_seq (c_region ?_)))
 refine o_mv rfl rfl ?_
 refine o_p (p_not (b := (hitF (fun x : Int => cmpI x at_) f.set)) rfl) ?_
 refine o_as rfl rfl ?_
 refine o_nil (q_then (c_ret ?_))
 have hr0 : ((!(hitF (fun x : Int => cmpI x at_) f.set)) : Bool) = (!decide (at_ ∈ f.set)) := by
  rw [Bl.hit_mem hy1]
 refine q_end0 (v := .bool (!(hitF (fun x : Int => cmpI x at_) f.set))) (rt1 rfl (r_tmp rfl)) (i := 0) rfl ?_
 exact (by have hcc := congrArg (fun (y0 : Bool) => (.bool y0 : Value)) hr0; exact hcc)

set_option maxHeartbeats 8000000 in
set_option maxRecDepth 100000 in
theorem bmay_ok (f : DFilter) (af_0 : Option Addr) (cf_0 : Nat) (s : ByteArray) : Fn0 Try.prog 12 [.agg #[Vi f.size, Vi f.hashes, .slice af_0 f.set.length cf_0], .string s] (fun w => Rd tInt w af_0 cf_0 f.set) (.tuple #[.bool (Bl.may f s), Vi (Bl.keyErr f s)]) := by
 refine fn0 (nt := 21) (F0 := [(0, .agg #[Vi f.size, Vi f.hashes, .slice af_0 f.set.length cf_0]), (1, .string s)]) Try.func12 rfl Try.ntmps12 rfl rfl (fun w0 hpre => ?_)
 have hf_0 := hpre
 have hlhf_0 := hf_0.2.1
 refine c_seq (c_region ?_)
 refine o_box (v := .agg #[Vi f.size, Vi f.hashes, .slice af_0 f.set.length cf_0]) rfl rfl (fun B1 => ?_)
 refine o_as rfl rfl ?_
 refine o_as rfl rfl ?_
 refine o_nil (q_then (c_seq (c_seq (c_region ?_))))
 refine o_p (p_load_agg (i := 0) (vs := [Vi f.size, Vi f.hashes, .slice af_0 f.set.length cf_0]) rfl rfl sh24 rfl rfl) ?_
 refine o_mv rfl rfl ?_
 refine o_call0 (v := Vi (Bl.keyErr f s)) rfl (bcheckK_ok f af_0 cf_0 s) hf30 (fun w hw => (rd_base (i := 1) rfl hf_0) w hw) rfl ?_
 refine o_as rfl rfl ?_
 refine o_nil (q_then (c_seq (c_region ?_)))
 refine o_mv rfl rfl ?_
 refine o_p (p_ne rfl rfl) ?_
 refine o_nil (q_then ?_)
 refine c_cond rfl (fun hc2 => ?_) (fun hc2 => ?_)
 ·simp only [bne_iff_ne, ne_eq] at hc2
  refine c_seq (c_region ?_)
  refine o_mv rfl rfl ?_
  refine o_as rfl rfl ?_
  refine o_as rfl rfl ?_
  refine o_nil (q_then (c_ret ?_))
  refine q_then_ret ?_
  have hr0 : (false : Bool) = (Bl.may f s) := by
   first | exact (Bl.may_bad (by assumption)).symm | exact (Bl.may_ok hke).symm | exact hke.symm | rfl
  refine q_end0 (v := .tuple #[.bool false, Vi (Bl.keyErr f s)]) (rt2 rfl (r_tmp rfl) (r_tmp rfl)) (i := 1) rfl ?_
  exact (by have hcc := congrArg (fun (y0 : Bool) => (.tuple #[.bool y0, Vi (Bl.keyErr f s)] : Value)) hr0; exact hcc)
 ·simp only [bne_eq_false_iff_eq] at hc2
  have hke := hc2
  have hko := Bl.key_ok hc2
  have hok := hko.1
  have hsz := hok.size
  have hha := hok.hashes
  have hln := hok.len
  have hpl := Bl.places_len f s
  have hup := hok.up
  refine c_skip (q_then (c_seq (c_region ?_)))
  refine o_p (p_load_agg (i := 0) (vs := [Vi f.size, Vi f.hashes, .slice af_0 f.set.length cf_0]) rfl rfl sh24 rfl rfl) ?_
  refine o_mv rfl rfl ?_
  refine o_callM rfl (bplaces_ok f af_0 cf_0 s (by first | assumption | exact ⟨hok, hko.2⟩)) hf31 (fun w hw => (rd_base (i := 1) rfl hf_0) w hw) rfl (fun _ _ _ _ ha hA => SlO.agree ha hA) ?_
  rintro ⟨a5, c6⟩ S3
  refine o_know (fun w hw => own_len (i := 0) (T := tInt) hw rfl) (fun hlr7 => ?_)
  refine o_p (p_makeFunc (vs := [.pointer (some ⟨B1, 0, none⟩)]) rfl) ?_
  refine o_call0 (v := .bool ((Bl.places f s).any (fun x : Int => (!decide (x ∈ f.set))))) rfl (containsFunc_Int_ok (Bl.places f s) a5 c6 34 [.pointer (some ⟨B1, 0, none⟩)] (fun x => (!decide (x ∈ f.set))) (fun w => Rd tInt w af_0 cf_0 f.set ∧ (box B1 [Vi f.size, Vi f.hashes, .slice af_0 f.set.length cf_0] 24).A w) (fun _ _ hb h => ⟨Rd.below h.1 hb.block hb.size, box_below hb h.2⟩) (fun x => mayc1_ok x B1 f af_0 cf_0 (by first | assumption | exact hup)) hf34) hf33 (fun w hw => ⟨(rd_own (i := 0) rfl) w hw, ⟨(rd_base (i := 2) rfl hf_0) w hw, (hw.at (i := 1) rfl).here⟩⟩) rfl ?_
  refine o_as rfl rfl ?_
  refine o_nil (q_then (c_seq (c_region ?_)))
  refine o_mv rfl rfl ?_
  refine o_p (p_not (b := ((Bl.places f s).any (fun x : Int => (!decide (x ∈ f.set))))) rfl) ?_
  refine o_as rfl rfl ?_
  refine o_as rfl rfl ?_
  refine o_nil (q_then (c_ret ?_))
  have hr0 : ((!((Bl.places f s).any (fun x : Int => (!decide (x ∈ f.set))))) : Bool) = (Bl.may f s) := by
   first | exact (Bl.may_bad (by assumption)).symm | exact (Bl.may_ok hke).symm | exact hke.symm | rfl
  have hr1 : (0 : Int) = (Bl.keyErr f s) := by
   first | exact (Bl.may_bad (by assumption)).symm | exact (Bl.may_ok hke).symm | exact hke.symm | rfl
  refine q_end0 (v := .tuple #[.bool (!((Bl.places f s).any (fun x : Int => (!decide (x ∈ f.set))))), Vi 0]) (rt2 rfl (r_tmp rfl) (r_tmp rfl)) (i := 2) rfl ?_
  exact (by have hcc := congr (congrArg (fun (y0 : Bool) (y1 : Int) => (.tuple #[.bool y0, .int .i64 y1] : Value)) hr0) hr1; exact hcc)
end Go.Proofs.Ytfncgfcehkalnaa

/- The walks, printed by a program from the translation and a specification. -/
namespace Go.Proofs.Ytfncgfcehkalnaa
open Go.Sx Go.RowKit
set_option maxHeartbeats 8000000 in
set_option maxRecDepth 100000 in
theorem topFilter_ok (room : Int) (size : Int) (hashes : Int) (l : List ByteArray) (al : Option Addr) (cl : Nat) (other : ByteArray) : Fn0 Try.prog 9 [Vi room, Vi size, Vi hashes, .slice al l.length cl, .string other] (fun w => Rd tStr w al cl l) (.bool true) := by
 refine fn0 (nt := 169) (F0 := [(0, Vi room), (1, Vi size), (2, Vi hashes), (3, .slice al l.length cl), (4, .string other)]) Try.func9 rfl Try.ntmps9 rfl rfl (fun w0 hpre => ?_)
 have hl := hpre
 have hlhl := hl.2.1
 refine c_seq (c_region ?_)
 refine o_as rfl rfl ?_
 refine o_nil (q_then (c_seq (c_seq (c_region ?_))))
 refine o_call0 (v := .bool true) rfl (tbegun_ok ) hf28 (fun _ _ => trivial) rfl ?_
 refine o_p (p_not (b := true) rfl) ?_
 refine o_nil (q_then ?_)
 refine c_false rfl ?_
 refine c_skip (q_then (c_seq (c_region ?_)))
 refine o_mv rfl rfl ?_
 refine o_mv rfl rfl ?_
 refine o_p (p_build (cells := [Vi size, Vi hashes, .slice none 0 0]) fp24 ze24 rfl rfl) ?_
 refine o_alloc ze24 rfl (fun B1 => ?_)
 refine o_storeN (i := 0) (vs := [Vi size, Vi hashes, .slice none 0 0]) (cs' := [Vi size, Vi hashes, .slice none 0 0]) rfl rfl rfl sz24 rfl rfl rfl rfl ?_
 refine o_nil (q_then (c_seq (c_region ?_)))
 refine o_as rfl rfl ?_
 refine o_nil (q_then (c_seq (c_region ?_)))
 refine o_as rfl rfl ?_
 refine o_nil (q_then (c_seq (c_seq (c_region ?_))))
 refine o_as rfl rfl ?_
 refine o_nil (q_then (c_block ?_))
 refine c_ownNil tInt ?_
 refine c_ownNil tStr ?_
 refine c_ownNil tInt ?_
 refine c_loop (St := List Int × Option Addr × Nat × (Nat → Prop) × List ByteArray × Option Addr × Nat × (Nat → Prop) × Nat × DFilter × Option Addr × Nat × (Nat → Prop))
  (fun ⟨keys, akeys, ckeys, Skeys, names, anames, cnames, Snames, i, ff, aff_0, cff_0, Sff_0⟩ => [(0, Vi room), (3, .slice al l.length cl), (4, .string other), (11, .pointer (some ⟨B1, 0, none⟩)), (12, .slice akeys keys.length ckeys), (13, .slice anames names.length cnames), (14, Vi (i : Int))])
  (fun ⟨keys, akeys, ckeys, Skeys, names, anames, cnames, Snames, i, ff, aff_0, cff_0, Sff_0⟩ => [own tInt Sff_0 aff_0 cff_0 ff.set, own tStr Snames anames cnames names, own tInt Skeys akeys ckeys keys, box B1 [Vi ff.size, Vi ff.hashes, .slice aff_0 ff.set.length cff_0] 24, base w0])
  (fun ⟨keys, akeys, ckeys, Skeys, names, anames, cnames, Snames, i, ff, aff_0, cff_0, Sff_0⟩ => Bl.TI l ff keys names i)
  (fun ⟨keys, akeys, ckeys, Skeys, names, anames, cnames, Snames, i, ff, aff_0, cff_0, Sff_0⟩ => l.length - i)
  ([], none, 0, (fun _ => False), [], none, 0, (fun _ => False), 0, (⟨size, hashes, []⟩ : DFilter), none, 0, (fun _ => False)) ?_ (sr (sr (sr (sr (sr (sr (sr (Sub.nil _)))))))) (fun _ hw => hw) ?_
 ·exact Bl.TI.start l _
 rintro ⟨keys, akeys, ckeys, Skeys, names, anames, cnames, Snames, i, ff, aff_0, cff_0, Sff_0⟩ hI K hK5
 have hle := hI.le
 have hkl := hI.kl
 have hnl := hI.nl
 have hT := hI
 show SC _ _ Try.prog 169 w0 _ _ [(0, Vi room), (3, .slice al l.length cl), (4, .string other), (11, .pointer (some ⟨B1, 0, none⟩)), (12, .slice akeys keys.length ckeys), (13, .slice anames names.length cnames), (14, Vi (i : Int))] [own tInt Sff_0 aff_0 cff_0 ff.set, own tStr Snames anames cnames names, own tInt Skeys akeys ckeys keys, box B1 [Vi ff.size, Vi ff.hashes, .slice aff_0 ff.set.length cff_0] 24, base w0]
 refine c_seq (c_seq (c_region ?_))
 refine o_mv rfl rfl ?_
 refine o_mv rfl rfl ?_
 refine o_p (p_len_slice rfl rfl Try.underlying42) ?_
 refine o_p (p_lt rfl rfl) ?_
 refine o_mv rfl rfl ?_
 refine o_and (p := 40) 3 (decide ((i : Int) < 60)) ?_ ?_ ?_
 ·intro hb6 hk
  simp only [decide_eq_true_eq] at hb6
  refine o_unguard 37 rfl rfl ?_
  refine o_mv rfl rfl ?_
  refine o_unguard 37 rfl rfl ?_
  refine o_p (p_lt rfl rfl) ?_
  refine o_pt rfl rfl rfl ?_
  exact o_sub (sr (Sub.skip rfl (Sub.skip rfl (Sub.skip rfl (Sub.skip rfl (Sub.refl _)))))) hk
 ·intro hb6 hk
  refine o_guard_no rfl 37 rfl rfl rfl rfl rfl ?_
  refine o_guard_no rfl 37 rfl rfl rfl rfl rfl ?_
  refine o_pf rfl rfl rfl ?_
  exact o_sub (sr (Sub.skip rfl (Sub.skip rfl (Sub.skip rfl (Sub.skip rfl (Sub.refl _)))))) hk
 refine o_nil (q_then ?_)
 refine c_cond rfl (fun hc7 => ?_) (fun hc7 => ?_)
 ·simp only [Bool.and_eq_true, decide_eq_true_eq] at hc7
  refine c_skip (q_then (c_seq (c_block (c_seq ?_))))
  refine c_cut (G := (Nat → Prop) × Option Addr × Nat × Nat) (fun ⟨S8_5, a8_5, c8_5, B8_9⟩ => [(0, Vi room), (3, .slice al l.length cl), (4, .string other), (11, .pointer (some ⟨B1, 0, none⟩)), (12, .slice akeys keys.length ckeys), (13, .slice anames names.length cnames), (14, Vi (i : Int)), (15, .pointer (some ⟨B8_9, 0, none⟩)), (16, Vi (Bl.keyErr ff (l.getD i default)))]) (fun ⟨S8_5, a8_5, c8_5, B8_9⟩ => [box B8_9 [Vi ((Bl.add ff (l.getD i default)).size), Vi ((Bl.add ff (l.getD i default)).hashes), .slice a8_5 ((Bl.add ff (l.getD i default)).set).length c8_5] 24, own tInt S8_5 a8_5 c8_5 ((Bl.add ff (l.getD i default)).set), own tInt Sff_0 aff_0 cff_0 ff.set, own tStr Snames anames cnames names, own tInt Skeys akeys ckeys keys, box B1 [Vi ff.size, Vi ff.hashes, .slice aff_0 ff.set.length cff_0] 24, base w0]) (fun K hK9 => ?_) ?_
  ·refine c_held hmix [own tInt Sff_0 aff_0 cff_0 ff.set, own tStr Snames anames cnames names, own tInt Skeys akeys ckeys keys, box B1 [Vi ff.size, Vi ff.hashes, .slice aff_0 ff.set.length cff_0] 24, base w0] rfl rfl ?_
   refine h_t0 (i := 0) (ls := #[T1,F0,F0,F0,F0,F0,F0,F0,F0,F0,F0,F0]) rfl (p_load_agg (i := 3) (vs := [Vi ff.size, Vi ff.hashes, .slice aff_0 ff.set.length cff_0]) rfl rfl sh24 rfl rfl) ?_
   refine h_t0 (i := 1) (ls := #[T1,T1,F0,F0,F0,F0,F0,F0,F0,F0,F0,F0]) rfl (p_move rfl) ?_
   refine h_t0 (i := 2) (ls := #[T1,T1,T1,F0,F0,F0,F0,F0,F0,F0,F0,F0]) rfl (p_move rfl) ?_
   refine h_t0 (i := 3) (ls := #[T1,T1,T1,T1,F0,F0,F0,F0,F0,F0,F0,F0]) rfl (p_indexAddr (L := l) (T := tStr) (i := (i : Int)) rfl rfl (rd_base (i := 4) rfl hl) Try.underlying42 sz9 (by omega) (by omega)) ?_
   refine h_t0 (i := 4) (ls := #[T1,T1,T1,T1,T1,F0,F0,F0,F0,F0,F0,F0]) rfl (p_loadE1 (i := i) (T := tStr) (L := l) (v := .string (l.getD i default)) rfl (rd_base (i := 4) rfl hl) (by first | assumption | omega) sh9 (congrArg tStr.enc (getd_at (by first | assumption | omega) default))) ?_
   refine h_two (i := 5) (j := 9) (ls := #[T1,T1,T1,T1,T1,T1,F0,F0,F0,F0,F0,F0]) (ls' := #[T1,T1,T1,T1,T1,F0,F0,F0,F0,T1,F0,F0]) (by kernel_rfl) rfl rfl rfl rfl ?_ ?_
   ·refine o_callM rfl (badd_ok ff aff_0 cff_0 (l.getD i default)) hf11 (fun w hw => (rd_own (i := 0) rfl) w hw) rfl (fun _ _ _ _ ha hA => SlO.agree ha hA) ?_
    rintro ⟨a8_5, c8_5⟩ S8_5
    refine o_know (fun w hw => own_len (i := 0) (T := tInt) hw rfl) (fun hlr8_5 => ?_)
    refine o_nil ?_
    refine h_next (dp (lz (lj (lj (lj (lj (lj (ln)))))))) ?_
    refine h_tk (i := 6) (ls := #[T1,T1,T1,T1,T1,T1,T1,F0,F0,F0,F0,F0]) rfl (p_move rfl) (dp (lz (lj (lj (lj (lj (lj (ln)))))))) ?_
    refine h_tk (i := 7) (ls := #[T1,T1,T1,T1,T1,T1,T1,T1,F0,F0,F0,F0]) rfl (p_extract rfl rfl) (dp (lz (lj (lj (lj (lj (lj (ln)))))))) ?_
    refine h_tk (i := 8) (ls := #[T1,T1,T1,T1,T1,T1,T1,T1,T1,F0,F0,F0]) rfl (p_extract rfl rfl) (dp (lz (lj (lj (lj (lj (lj (ln)))))))) ?_
    refine h_one (i := 9) (ls := #[T1,T1,T1,T1,T1,T1,T1,T1,T1,T1,F0,F0]) (by kernel_rfl) rfl rfl ?_
    refine o_alloc ze24 rfl (fun B8_9 => ?_)
    refine o_nil ?_
    refine h_next (dp (lz (lz (lj (lj (lj (lj (lj (ln))))))))) ?_
    refine h_one (i := 10) (ls := #[T1,T1,T1,T1,T1,T1,T1,T1,T1,T1,T1,F0]) (by kernel_rfl) rfl rfl ?_
    refine o_storeN (i := 0) (vs := [Vi ((Bl.add ff (l.getD i default)).size), Vi ((Bl.add ff (l.getD i default)).hashes), .slice a8_5 ((Bl.add ff (l.getD i default)).set).length c8_5]) (cs' := [Vi ((Bl.add ff (l.getD i default)).size), Vi ((Bl.add ff (l.getD i default)).hashes), .slice a8_5 ((Bl.add ff (l.getD i default)).set).length c8_5]) rfl rfl rfl sz24 rfl rfl rfl rfl ?_
    refine o_nil ?_
    refine h_next (dp (lz (lz (lj (lj (lj (lj (lj (ln))))))))) ?_
    refine h_tk (i := 11) (ls := #[T1,T1,T1,T1,T1,T1,T1,T1,T1,T1,T1,T1]) rfl (p_assign rfl) (dp (lz (lz (lj (lj (lj (lj (lj (ln))))))))) ?_
    refine h_done (by kernel_rfl) ?_
    refine q_kont hK9 (S8_5, a8_5, c8_5, B8_9) (sr (sr (sr (sr (sr (sr (sr (sr (sr (Sub.nil _)))))))))) (pk [0, 1, 2, 3, 4, 5, 6])
   ·refine o_alloc ze24 rfl (fun B8_9 => ?_)
    refine o_nil ?_
    refine h_next (dp (lz (lj (lj (lj (lj (lj (ln)))))))) ?_
    refine h_one (i := 5) (ls := #[T1,T1,T1,T1,T1,T1,F0,F0,F0,T1,F0,F0]) (by kernel_rfl) rfl rfl ?_
    refine o_callM rfl (badd_ok ff aff_0 cff_0 (l.getD i default)) hf11 (fun w hw => (rd_own (i := 1) rfl) w hw) rfl (fun _ _ _ _ ha hA => SlO.agree ha hA) ?_
    rintro ⟨a8_5, c8_5⟩ S8_5
    refine o_know (fun w hw => own_len (i := 0) (T := tInt) hw rfl) (fun hlr8_5 => ?_)
    refine o_nil ?_
    refine h_next (dp (lz (lz (lj (lj (lj (lj (lj (ln))))))))) ?_
    refine h_tk (i := 6) (ls := #[T1,T1,T1,T1,T1,T1,T1,F0,F0,T1,F0,F0]) rfl (p_move rfl) (dp (lz (lz (lj (lj (lj (lj (lj (ln))))))))) ?_
    refine h_tk (i := 7) (ls := #[T1,T1,T1,T1,T1,T1,T1,T1,F0,T1,F0,F0]) rfl (p_extract rfl rfl) (dp (lz (lz (lj (lj (lj (lj (lj (ln))))))))) ?_
    refine h_tk (i := 8) (ls := #[T1,T1,T1,T1,T1,T1,T1,T1,T1,T1,F0,F0]) rfl (p_extract rfl rfl) (dp (lz (lz (lj (lj (lj (lj (lj (ln))))))))) ?_
    refine h_one (i := 10) (ls := #[T1,T1,T1,T1,T1,T1,T1,T1,T1,T1,T1,F0]) (by kernel_rfl) rfl rfl ?_
    refine o_storeN (i := 1) (vs := [Vi ((Bl.add ff (l.getD i default)).size), Vi ((Bl.add ff (l.getD i default)).hashes), .slice a8_5 ((Bl.add ff (l.getD i default)).set).length c8_5]) (cs' := [Vi ((Bl.add ff (l.getD i default)).size), Vi ((Bl.add ff (l.getD i default)).hashes), .slice a8_5 ((Bl.add ff (l.getD i default)).set).length c8_5]) rfl rfl rfl sz24 rfl rfl rfl rfl ?_
    refine o_nil ?_
    refine h_next (dp (lz (lz (lj (lj (lj (lj (lj (ln))))))))) ?_
    refine h_tk (i := 11) (ls := #[T1,T1,T1,T1,T1,T1,T1,T1,T1,T1,T1,T1]) rfl (p_assign rfl) (dp (lz (lz (lj (lj (lj (lj (lj (ln))))))))) ?_
    refine h_done (by kernel_rfl) ?_
    refine q_kont hK9 (S8_5, a8_5, c8_5, B8_9) (sr (sr (sr (sr (sr (sr (sr (sr (sr (Sub.nil _)))))))))) (pk [1, 0, 2, 3, 4, 5, 6])
  rintro ⟨S8_5, a8_5, c8_5, B8_9⟩
  show SQ _ 169 w0 _ _ [(0, Vi room), (3, .slice al l.length cl), (4, .string other), (11, .pointer (some ⟨B1, 0, none⟩)), (12, .slice akeys keys.length ckeys), (13, .slice anames names.length cnames), (14, Vi (i : Int)), (15, .pointer (some ⟨B8_9, 0, none⟩)), (16, Vi (Bl.keyErr ff (l.getD i default)))] [box B8_9 [Vi ((Bl.add ff (l.getD i default)).size), Vi ((Bl.add ff (l.getD i default)).hashes), .slice a8_5 ((Bl.add ff (l.getD i default)).set).length c8_5] 24, own tInt S8_5 a8_5 c8_5 ((Bl.add ff (l.getD i default)).set), own tInt Sff_0 aff_0 cff_0 ff.set, own tStr Snames anames cnames names, own tInt Skeys akeys ckeys keys, box B1 [Vi ff.size, Vi ff.hashes, .slice aff_0 ff.set.length cff_0] 24, base w0]
  refine q_know (fun w hw => own_len (i := 1) (T := tInt) hw rfl) (fun hlr10 => ?_)
  refine q_then (c_seq (c_seq (c_region ?_)))
  refine o_mv rfl rfl ?_
  refine o_p (p_ne rfl rfl) ?_
  refine o_nil (q_then ?_)
  refine c_cond rfl (fun hc11 => ?_) (fun hc11 => ?_)
  ·simp only [bne_iff_ne, ne_eq] at hc11
   refine c_seq (c_region ?_)
   refine o_as rfl rfl ?_
   refine o_nil (q_then (c_ret ?_))
   refine q_then_ret (q_block_ret (q_then_ret (q_then_ret (q_block_ret (q_then_ret ?_)))))
   refine q_end0 (v := .bool true) (rt1 rfl (r_tmp rfl)) (i := 6) rfl ?_
   exact rfl
  ·simp only [bne_eq_false_iff_eq] at hc11
   have hke := hc11
   refine c_skip (q_then (c_seq (c_region ?_)))
   refine o_p (p_load_agg (i := 0) (vs := [Vi ((Bl.add ff (l.getD i default)).size), Vi ((Bl.add ff (l.getD i default)).hashes), .slice a8_5 ((Bl.add ff (l.getD i default)).set).length c8_5]) rfl rfl sh24 rfl rfl) ?_
   refine o_storeN (i := 5) (vs := [Vi ((Bl.add ff (l.getD i default)).size), Vi ((Bl.add ff (l.getD i default)).hashes), .slice a8_5 ((Bl.add ff (l.getD i default)).set).length c8_5]) (cs' := [Vi ((Bl.add ff (l.getD i default)).size), Vi ((Bl.add ff (l.getD i default)).hashes), .slice a8_5 ((Bl.add ff (l.getD i default)).set).length c8_5]) rfl rfl rfl sz24 rfl rfl rfl rfl ?_
   refine o_nil (q_then (c_seq (c_region ?_)))
   refine o_mv rfl rfl ?_
   refine o_p (p_len_slice rfl rfl Try.underlying42) ?_
   refine o_as rfl rfl ?_
   refine o_nil (q_then (c_seq (c_seq (c_region ?_))))
   refine o_as rfl rfl ?_
   refine o_nil (q_then (c_block ?_))
   refine c_loop (St := Int × Nat)
    (fun ⟨kk, n⟩ => [(0, Vi room), (3, .slice al l.length cl), (4, .string other), (11, .pointer (some ⟨B1, 0, none⟩)), (12, .slice akeys keys.length ckeys), (13, .slice anames names.length cnames), (14, Vi (i : Int)), (17, Vi kk), (18, Vi (n : Int))])
    (fun ⟨kk, n⟩ => [box B8_9 [Vi ((Bl.add ff (l.getD i default)).size), Vi ((Bl.add ff (l.getD i default)).hashes), .slice a8_5 ((Bl.add ff (l.getD i default)).set).length c8_5] 24, own tInt S8_5 a8_5 c8_5 ((Bl.add ff (l.getD i default)).set), own tInt Sff_0 aff_0 cff_0 ff.set, own tStr Snames anames cnames names, own tInt Skeys akeys ckeys keys, box B1 [Vi ((Bl.add ff (l.getD i default)).size), Vi ((Bl.add ff (l.getD i default)).hashes), .slice a8_5 ((Bl.add ff (l.getD i default)).set).length c8_5] 24, base w0])
    (fun ⟨kk, n⟩ => n ≤ names.length ∧ 0 ≤ kk ∧ kk ≤ (names.length : Int))
    (fun ⟨kk, n⟩ => names.length - n)
    ((names.length : Int), 0) ?_ (sr (sr (sr (sr (sr (sr (sr (sr (sr (Sub.nil _)))))))))) (fun _ hw => hw) ?_
   ·exact ⟨Nat.zero_le _, by omega, by omega⟩
   rintro ⟨kk, n⟩ hI K hK12
   show SC _ _ Try.prog 169 w0 _ _ [(0, Vi room), (3, .slice al l.length cl), (4, .string other), (11, .pointer (some ⟨B1, 0, none⟩)), (12, .slice akeys keys.length ckeys), (13, .slice anames names.length cnames), (14, Vi (i : Int)), (17, Vi kk), (18, Vi (n : Int))] [box B8_9 [Vi ((Bl.add ff (l.getD i default)).size), Vi ((Bl.add ff (l.getD i default)).hashes), .slice a8_5 ((Bl.add ff (l.getD i default)).set).length c8_5] 24, own tInt S8_5 a8_5 c8_5 ((Bl.add ff (l.getD i default)).set), own tInt Sff_0 aff_0 cff_0 ff.set, own tStr Snames anames cnames names, own tInt Skeys akeys ckeys keys, box B1 [Vi ((Bl.add ff (l.getD i default)).size), Vi ((Bl.add ff (l.getD i default)).hashes), .slice a8_5 ((Bl.add ff (l.getD i default)).set).length c8_5] 24, base w0]
   refine c_seq (c_seq (c_region ?_))
   refine o_mv rfl rfl ?_
   refine o_mv rfl rfl ?_
   refine o_p (p_len_slice rfl rfl Try.underlying42) ?_
   refine o_p (p_lt rfl rfl) ?_
   refine o_nil (q_then ?_)
   refine c_cond rfl (fun hc13 => ?_) (fun hc13 => ?_)
   ·simp only [decide_eq_true_eq] at hc13
    refine c_skip (q_then (c_seq (c_block (c_seq ?_))))
    refine c_draw hmix (by kernel_rfl) ?_
    refine w_mv rfl rfl ?_
    refine w_mv rfl rfl ?_
    refine w_p (p_indexAddr (L := names) (T := tStr) (i := (n : Int)) rfl rfl (rd_own (i := 3) rfl) Try.underlying42 sz9 (by omega) (by omega)) ?_
    refine w_p (p_loadE1 (i := n) (T := tStr) (L := names) (v := .string (names.getD n default)) rfl (rd_own (i := 3) rfl) (by first | assumption | omega) sh9 (congrArg tStr.enc (getd_at (by first | assumption | omega) default))) ?_
    refine w_mv rfl rfl ?_
    refine w_mv rfl rfl ?_
    refine w_p (p_indexAddr (L := l) (T := tStr) (i := (i : Int)) rfl rfl (rd_base (i := 6) rfl hl) Try.underlying42 sz9 (by omega) (by omega)) ?_
    refine w_p (p_loadE1 (i := i) (T := tStr) (L := l) (v := .string (l.getD i default)) rfl (rd_base (i := 6) rfl hl) (by first | assumption | omega) sh9 (congrArg tStr.enc (getd_at (by first | assumption | omega) default))) ?_
    refine w_p (p_eqStr (s := (names.getD n default)) (t := (l.getD i default)) rfl rfl) ?_
    refine w_mv rfl rfl ?_
    refine w_and (p := 77) 5 (kk == (names.length : Int)) ?_ ?_ ?_
    ·intro hb14 hk
     simp only [decide_eq_true_eq] at hb14
     refine w_unguard 72 rfl rfl ?_
     refine w_mv rfl rfl ?_
     refine w_unguard 72 rfl rfl ?_
     refine w_mv rfl rfl ?_
     refine w_unguard 72 rfl rfl ?_
     refine w_p (p_len_slice rfl rfl Try.underlying42) ?_
     refine w_unguard 72 rfl rfl ?_
     refine w_p (p_eq rfl rfl) ?_
     refine w_pt rfl rfl rfl ?_
     exact w_sub (sr (Sub.skip rfl (Sub.skip rfl (Sub.skip rfl (Sub.skip rfl (Sub.skip rfl (Sub.skip rfl (Sub.refl _)))))))) hk
    ·intro hb14 hk
     refine w_guard_no rfl 72 rfl rfl rfl rfl rfl ?_
     refine w_guard_no rfl 72 rfl rfl rfl rfl rfl ?_
     refine w_guard_no rfl 72 rfl rfl rfl rfl rfl ?_
     refine w_guard_no rfl 72 rfl rfl rfl rfl rfl ?_
     refine w_pf rfl rfl rfl ?_
     exact w_sub (sr (Sub.skip rfl (Sub.skip rfl (Sub.skip rfl (Sub.skip rfl (Sub.skip rfl (Sub.skip rfl (Sub.refl _)))))))) hk
    refine w_nil (q_then ?_)
    refine c_cond rfl (fun hc15 => ?_) (fun hc15 => ?_)
    ·simp only [Bool.and_eq_true, decide_eq_true_eq, beq_iff_eq] at hc15
     refine c_region ?_
     refine o_mv rfl rfl ?_
     refine o_as rfl rfl ?_
     refine o_nil ?_
     refine q_block_normal (q_then ?_)
     refine c_region ?_
     refine o_mv rfl rfl ?_
     refine o_p (p_addb rfl rfl (by omega)) ?_
     refine o_as rfl rfl ?_
     refine o_nil ?_
     refine q_round hK12 ((n : Int), n + 1) ?_ ?_ ?_ ?_
     ·clear hK12
      exact ⟨by omega, by omega, by omega⟩
     ·(try dsimp only); omega
     ·exact sr (sr (sr (sr (sr (sr (sr (sr (sr (Sub.nil _)))))))))
     ·exact pk [0, 1, 2, 3, 4, 5, 6]
    ·simp only [Bool.and_eq_false_iff, decide_eq_false_iff_not, beq_eq_false_iff_ne, ne_eq] at hc15
     refine c_skip ?_
     refine q_block_normal (q_then ?_)
     refine c_region ?_
     refine o_mv rfl rfl ?_
     refine o_p (p_addb rfl rfl (by omega)) ?_
     refine o_as rfl rfl ?_
     refine o_nil ?_
     refine q_round hK12 (kk, n + 1) ?_ ?_ ?_ ?_
     ·clear hK12
      exact ⟨by omega, by omega, by omega⟩
     ·(try dsimp only); omega
     ·exact sr (sr (sr (sr (sr (sr (sr (sr (sr (Sub.nil _)))))))))
     ·exact pk [0, 1, 2, 3, 4, 5, 6]
   ·simp only [decide_eq_false_iff_not, Int.not_lt] at hc13
    refine c_exit ?_
    refine q_then_exit (q_then_exit (q_block_exit (q_then ?_)))
    refine c_seq (c_seq (c_region ?_))
    refine o_mv rfl rfl ?_
    refine o_mv rfl rfl ?_
    refine o_p (p_len_slice rfl rfl Try.underlying42) ?_
    refine o_p (p_eq rfl rfl) ?_
    refine o_nil (q_then ?_)
    refine c_cond rfl (fun hc16 => ?_) (fun hc16 => ?_)
    ·simp only [beq_iff_eq] at hc16
     refine c_region ?_
     refine o_mv rfl rfl ?_
     refine o_mv rfl rfl ?_
     refine o_mv rfl rfl ?_
     refine o_p (p_indexAddr (L := l) (T := tStr) (i := (i : Int)) rfl rfl (rd_base (i := 6) rfl hl) Try.underlying42 sz9 (by omega) (by omega)) ?_
     refine o_p (p_loadE1 (i := i) (T := tStr) (L := l) (v := .string (l.getD i default)) rfl (rd_base (i := 6) rfl hl) (by first | assumption | omega) sh9 (congrArg tStr.enc (getd_at (by first | assumption | omega) default))) ?_
     refine o_buildSlice (m := 1) (T := tStr) (L := [(l.getD i default)]) (vs := [.string (l.getD i default)]) rfl rfl rfl rfl Try.underlying42 sz9 (by decide) ze9 rfl (by decide) rfl (fun S17 a18 => ?_)
     refine o_append (i := 4) (L := names) (M := [(l.getD i default)]) (T := tStr) rfl rfl rfl (rd_own (i := 0) rfl) Try.underlying42 Try.underlying42 (by intro k h; cases h) el9 (by intro z; simp [tStr, one1]) (by decide) (by first | omega | (simp only [List.length_cons, List.length_nil]; omega) | (simp only [List.length_append, List.length_cons, List.length_nil, List.length_take, List.length_drop]; omega)) rfl (fun a20 c21 S22 => ?_)
     refine o_as rfl rfl ?_
     refine o_nil (q_then (c_region ?_))
     refine o_mv rfl rfl ?_
     refine o_mv rfl rfl ?_
     refine o_buildSlice (m := 1) (T := tInt) (L := [kk]) (vs := [Vi kk]) rfl rfl rfl rfl Try.underlying22 sz3 (by decide) ze3 rfl (by decide) rfl (fun S23 a24 => ?_)
     refine o_append (i := 6) (L := keys) (M := [kk]) (T := tInt) rfl rfl rfl (rd_own (i := 0) rfl) Try.underlying22 Try.underlying22 (by intro k h; cases h) el3 (by intro z; simp [tInt, one1]) (by decide) (by first | omega | (simp only [List.length_cons, List.length_nil]; omega) | (simp only [List.length_append, List.length_cons, List.length_nil, List.length_take, List.length_drop]; omega)) rfl (fun a26 c27 S28 => ?_)
     refine o_as rfl rfl ?_
     refine o_nil ?_
     refine q_block_normal (q_then ?_)
     refine c_region ?_
     refine o_mv rfl rfl ?_
     refine o_p (p_addb rfl rfl (by omega)) ?_
     refine o_as rfl rfl ?_
     refine o_nil ?_
     refine q_round hK5 ((keys ++ [kk]), a26, c27, S28, (names ++ [(l.getD i default)]), a20, c21, S22, i + 1, (Bl.add ff (l.getD i default)), a8_5, c8_5, S8_5) ?_ ?_ ?_ ?_
     ·clear hK5
      first | exact hT.new (by omega) hke (by omega) | exact hT.old (by omega) hke (by omega)
     ·(try dsimp only); omega
     ·exact sr (sr (sr (sr (sr (sr (sr (Sub.nil _)))))))
     ·exact pk [3, 5, 6, 7, 8]
    ·simp only [beq_eq_false_iff_ne, ne_eq] at hc16
     refine c_skip (q_then (c_region ?_))
     refine o_mv rfl rfl ?_
     refine o_mv rfl rfl ?_
     refine o_buildSlice (m := 1) (T := tInt) (L := [kk]) (vs := [Vi kk]) rfl rfl rfl rfl Try.underlying22 sz3 (by decide) ze3 rfl (by decide) rfl (fun S29 a30 => ?_)
     refine o_append (i := 5) (L := keys) (M := [kk]) (T := tInt) rfl rfl rfl (rd_own (i := 0) rfl) Try.underlying22 Try.underlying22 (by intro k h; cases h) el3 (by intro z; simp [tInt, one1]) (by decide) (by first | omega | (simp only [List.length_cons, List.length_nil]; omega) | (simp only [List.length_append, List.length_cons, List.length_nil, List.length_take, List.length_drop]; omega)) rfl (fun a32 c33 S34 => ?_)
     refine o_as rfl rfl ?_
     refine o_nil ?_
     refine q_block_normal (q_then ?_)
     refine c_region ?_
     refine o_mv rfl rfl ?_
     refine o_p (p_addb rfl rfl (by omega)) ?_
     refine o_as rfl rfl ?_
     refine o_nil ?_
     refine q_round hK5 ((keys ++ [kk]), a32, c33, S34, names, anames, cnames, Snames, i + 1, (Bl.add ff (l.getD i default)), a8_5, c8_5, S8_5) ?_ ?_ ?_ ?_
     ·clear hK5
      first | exact hT.new (by omega) hke (by omega) | exact hT.old (by omega) hke (by omega)
     ·(try dsimp only); omega
     ·exact sr (sr (sr (sr (sr (sr (sr (Sub.nil _)))))))
     ·exact pk [2, 4, 5, 6, 7]
 ·simp only [Bool.and_eq_false_iff, decide_eq_false_iff_not, Int.not_lt] at hc7
  refine c_exit ?_
  refine q_then_exit (q_then_exit (q_block_exit (q_then ?_)))
  refine c_seq (c_region ?_)
  refine o_mv rfl rfl ?_
  refine o_p (p_build (cells := [Vi room, .slice none 0 0]) fp50 ze50 rfl rfl) ?_
  refine o_mv rfl rfl ?_
  refine o_callM rfl (lrun_ok (⟨room, []⟩ : DCache) none 0 keys akeys ckeys) hf29 (fun w hw => ⟨rd_nil w hw, (rd_own (i := 2) rfl) w hw⟩) rfl (fun _ _ _ _ ha hA => SlO.agree ha hA) ?_
  rintro ⟨a37, c38⟩ S35
  refine o_know (fun w hw => own_len (i := 0) (T := tInt) hw rfl) (fun hlr39 => ?_)
  refine o_mv rfl rfl ?_
  refine o_ex rfl rfl rfl ?_
  refine o_ex rfl rfl rfl ?_
  refine o_ex rfl rfl rfl ?_
  refine o_alloc ze50 rfl (fun B40 => ?_)
  refine o_storeN (i := 0) (vs := [Vi (((Lru.run (⟨room, []⟩ : DCache) keys).1).room), .slice a37 (((Lru.run (⟨room, []⟩ : DCache) keys).1).keys).length c38]) (cs' := [Vi (((Lru.run (⟨room, []⟩ : DCache) keys).1).room), .slice a37 (((Lru.run (⟨room, []⟩ : DCache) keys).1).keys).length c38]) rfl rfl rfl sz50 rfl rfl rfl rfl ?_
  refine o_as rfl rfl ?_
  refine o_as rfl rfl ?_
  refine o_nil (q_then (c_seq (c_seq (c_region ?_))))
  refine o_mv rfl rfl ?_
  refine o_p (p_ne rfl rfl) ?_
  refine o_nil (q_then ?_)
  refine c_cond rfl (fun hc41 => ?_) (fun hc41 => ?_)
  ·simp only [bne_iff_ne, ne_eq] at hc41
   refine c_seq (c_region ?_)
   refine o_as rfl rfl ?_
   refine o_nil (q_then (c_ret ?_))
   refine q_then_ret ?_
   refine q_end0 (v := .bool true) (rt1 rfl (r_tmp rfl)) (i := 6) rfl ?_
   exact rfl
  ·simp only [bne_eq_false_iff_eq] at hc41
   have hre := hc41
   refine c_skip (q_then (c_seq (c_seq (c_region ?_))))
   refine o_as rfl rfl ?_
   refine o_nil (q_then (c_block ?_))
   refine c_loop (St := Nat)
    (fun i2 => [(4, .string other), (11, .pointer (some ⟨B1, 0, none⟩)), (13, .slice anames names.length cnames), (19, .pointer (some ⟨B40, 0, none⟩)), (22, Vi (i2 : Int))])
    (fun i2 => [box B40 [Vi (((Lru.run (⟨room, []⟩ : DCache) keys).1).room), .slice a37 (((Lru.run (⟨room, []⟩ : DCache) keys).1).keys).length c38] 50, own tInt S35 a37 c38 (((Lru.run (⟨room, []⟩ : DCache) keys).1).keys), own tInt Sff_0 aff_0 cff_0 ff.set, own tStr Snames anames cnames names, own tInt Skeys akeys ckeys keys, box B1 [Vi ff.size, Vi ff.hashes, .slice aff_0 ff.set.length cff_0] 24, base w0])
    (fun i2 => i2 ≤ (Lru.run (⟨room, []⟩ : DCache) keys).1.keys.length)
    (fun i2 => (Lru.run (⟨room, []⟩ : DCache) keys).1.keys.length - i2)
    0 ?_ (sr (sr (sr (sr (sr (Sub.nil _)))))) (fun _ hw => hw) ?_
   ·exact Nat.zero_le _
   rintro i2 hI K hK42
   show SC _ _ Try.prog 169 w0 _ _ [(4, .string other), (11, .pointer (some ⟨B1, 0, none⟩)), (13, .slice anames names.length cnames), (19, .pointer (some ⟨B40, 0, none⟩)), (22, Vi (i2 : Int))] [box B40 [Vi (((Lru.run (⟨room, []⟩ : DCache) keys).1).room), .slice a37 (((Lru.run (⟨room, []⟩ : DCache) keys).1).keys).length c38] 50, own tInt S35 a37 c38 (((Lru.run (⟨room, []⟩ : DCache) keys).1).keys), own tInt Sff_0 aff_0 cff_0 ff.set, own tStr Snames anames cnames names, own tInt Skeys akeys ckeys keys, box B1 [Vi ff.size, Vi ff.hashes, .slice aff_0 ff.set.length cff_0] 24, base w0]
   refine c_seq (c_seq (c_region ?_))
   refine o_mv rfl rfl ?_
   refine o_p (p_fieldAddr (j' := 1) rfl fo50_1 rfl) ?_
   refine o_p (p_load (i := 0) (v := .slice a37 (((Lru.run (⟨room, []⟩ : DCache) keys).1).keys).length c38) rfl rfl sh22 rfl) ?_
   refine o_p (p_len_slice rfl rfl Try.underlying22) ?_
   refine o_p (p_lt rfl rfl) ?_
   refine o_nil (q_then ?_)
   refine c_cond rfl (fun hc43 => ?_) (fun hc43 => ?_)
   ·simp only [decide_eq_true_eq] at hc43
    have hkb := hT.key hre (j := i2) (by omega)
    have hka := hT.at_ (j := ((Lru.run (⟨room, []⟩ : DCache) keys).1.keys.getD i2 default).toNat) (by omega)
    refine c_skip (q_then (c_seq (c_block (c_seq (c_seq (c_region ?_))))))
    refine o_p (p_fieldAddr (j' := 1) rfl fo50_1 rfl) ?_
    refine o_p (p_load (i := 0) (v := .slice a37 (((Lru.run (⟨room, []⟩ : DCache) keys).1).keys).length c38) rfl rfl sh22 rfl) ?_
    refine o_mv rfl rfl ?_
    refine o_p (p_indexAddr (L := ((Lru.run (⟨room, []⟩ : DCache) keys).1).keys) (T := tInt) (i := (i2 : Int)) rfl rfl (rd_own (i := 1) rfl) Try.underlying22 sz3 (by omega) (by omega)) ?_
    refine o_p (p_loadE1 (i := i2) (T := tInt) (L := ((Lru.run (⟨room, []⟩ : DCache) keys).1).keys) (v := Vi ((((Lru.run (⟨room, []⟩ : DCache) keys).1).keys).getD i2 default)) rfl (rd_own (i := 1) rfl) (by first | assumption | omega) sh3 (congrArg tInt.enc (getd_at (by first | assumption | omega) default))) ?_
    refine o_p (p_lt rfl rfl) ?_
    refine o_mv rfl rfl ?_
    refine o_or (p := 126) 9 (decide ((names.length : Int) ≤ ((((Lru.run (⟨room, []⟩ : DCache) keys).1).keys).getD i2 default))) ?_ ?_ ?_
    ·intro hb44 hk
     simp only [decide_eq_false_iff_not, Int.not_lt] at hb44
     refine o_unguard 117 rfl rfl ?_
     refine o_p (p_fieldAddr (j' := 1) rfl fo50_1 rfl) ?_
     refine o_unguard 117 rfl rfl ?_
     refine o_p (p_load (i := 0) (v := .slice a37 (((Lru.run (⟨room, []⟩ : DCache) keys).1).keys).length c38) rfl rfl sh22 rfl) ?_
     refine o_unguard 117 rfl rfl ?_
     refine o_mv rfl rfl ?_
     refine o_unguard 117 rfl rfl ?_
     refine o_p (p_indexAddr (L := ((Lru.run (⟨room, []⟩ : DCache) keys).1).keys) (T := tInt) (i := (i2 : Int)) rfl rfl (rd_own (i := 1) rfl) Try.underlying22 sz3 (by omega) (by omega)) ?_
     refine o_unguard 117 rfl rfl ?_
     refine o_p (p_loadE1 (i := i2) (T := tInt) (L := ((Lru.run (⟨room, []⟩ : DCache) keys).1).keys) (v := Vi ((((Lru.run (⟨room, []⟩ : DCache) keys).1).keys).getD i2 default)) rfl (rd_own (i := 1) rfl) (by first | assumption | omega) sh3 (congrArg tInt.enc (getd_at (by first | assumption | omega) default))) ?_
     refine o_unguard 117 rfl rfl ?_
     refine o_mv rfl rfl ?_
     refine o_unguard 117 rfl rfl ?_
     refine o_p (p_len_slice rfl rfl Try.underlying42) ?_
     refine o_unguard 117 rfl rfl ?_
     refine o_p (p_ge rfl rfl) ?_
     refine o_pf rfl rfl rfl ?_
     exact o_sub (sr (Sub.skip rfl (Sub.skip rfl (Sub.skip rfl (Sub.skip rfl (Sub.skip rfl (Sub.skip rfl (Sub.skip rfl (Sub.skip rfl (Sub.skip rfl (Sub.skip rfl (Sub.refl _)))))))))))) hk
    ·intro hb44 hk
     refine o_guard_no rfl 117 rfl rfl rfl rfl rfl ?_
     refine o_guard_no rfl 117 rfl rfl rfl rfl rfl ?_
     refine o_guard_no rfl 117 rfl rfl rfl rfl rfl ?_
     refine o_guard_no rfl 117 rfl rfl rfl rfl rfl ?_
     refine o_guard_no rfl 117 rfl rfl rfl rfl rfl ?_
     refine o_guard_no rfl 117 rfl rfl rfl rfl rfl ?_
     refine o_guard_no rfl 117 rfl rfl rfl rfl rfl ?_
     refine o_guard_no rfl 117 rfl rfl rfl rfl rfl ?_
     refine o_pt rfl rfl rfl ?_
     exact o_sub (sr (Sub.skip rfl (Sub.skip rfl (Sub.skip rfl (Sub.skip rfl (Sub.skip rfl (Sub.skip rfl (Sub.skip rfl (Sub.skip rfl (Sub.skip rfl (Sub.skip rfl (Sub.refl _)))))))))))) hk
    refine o_nil (q_then ?_)
    refine c_cond rfl (fun hc45 => ?_) (fun hc45 => ?_)
    ·simp only [Bool.or_eq_true, decide_eq_true_eq] at hc45
     exfalso; omega
    ·simp only [Bool.or_eq_false_iff, decide_eq_false_iff_not, Int.not_lt, Int.not_le] at hc45
     refine c_skip (q_then (c_seq ?_))
     refine c_draw hmix (by kernel_rfl) ?_
     refine w_p (p_load_agg (i := 5) (vs := [Vi ff.size, Vi ff.hashes, .slice aff_0 ff.set.length cff_0]) rfl rfl sh24 rfl rfl) ?_
     refine w_mv rfl rfl ?_
     refine w_p (p_fieldAddr (j' := 1) rfl fo50_1 rfl) ?_
     refine w_p (p_load (i := 0) (v := .slice a37 (((Lru.run (⟨room, []⟩ : DCache) keys).1).keys).length c38) rfl rfl sh22 rfl) ?_
     refine w_mv rfl rfl ?_
     refine w_p (p_indexAddr (L := ((Lru.run (⟨room, []⟩ : DCache) keys).1).keys) (T := tInt) (i := (i2 : Int)) rfl rfl (rd_own (i := 1) rfl) Try.underlying22 sz3 (by omega) (by omega)) ?_
     refine w_p (p_loadE1 (i := i2) (T := tInt) (L := ((Lru.run (⟨room, []⟩ : DCache) keys).1).keys) (v := Vi ((((Lru.run (⟨room, []⟩ : DCache) keys).1).keys).getD i2 default)) rfl (rd_own (i := 1) rfl) (by first | assumption | omega) sh3 (congrArg tInt.enc (getd_at (by first | assumption | omega) default))) ?_
     refine w_p (p_indexAddr (L := names) (T := tStr) (i := ((((Lru.run (⟨room, []⟩ : DCache) keys).1).keys).getD i2 default)) rfl rfl (rd_own (i := 3) rfl) Try.underlying42 sz9 (by omega) (by omega)) ?_
     refine w_p (p_loadE1 (i := ((((Lru.run (⟨room, []⟩ : DCache) keys).1).keys).getD i2 default).toNat) (T := tStr) (L := names) (v := .string (names.getD (((((Lru.run (⟨room, []⟩ : DCache) keys).1).keys).getD i2 default).toNat) default)) rfl (rd_own (i := 3) rfl) (by first | assumption | omega) sh9 (congrArg tStr.enc (getd_at (by first | assumption | omega) default))) ?_
     refine w_call0 (v := .tuple #[.bool (Bl.may ff (names.getD (((((Lru.run (⟨room, []⟩ : DCache) keys).1).keys).getD i2 default).toNat) default)), Vi (Bl.keyErr ff (names.getD (((((Lru.run (⟨room, []⟩ : DCache) keys).1).keys).getD i2 default).toNat) default))]) rfl (bmay_ok ff aff_0 cff_0 (names.getD (((((Lru.run (⟨room, []⟩ : DCache) keys).1).keys).getD i2 default).toNat) default)) hf12 (fun w hw => (rd_own (i := 2) rfl) w hw) rfl ?_
     refine w_mv rfl rfl ?_
     refine w_p (p_extract rfl rfl) ?_
     refine w_p (p_extract rfl rfl) ?_
     refine w_p (p_assign rfl) ?_
     refine w_p (p_assign rfl) ?_
     refine w_nil (q_then (c_seq (c_region ?_)))
     refine o_mv rfl rfl ?_
     refine o_p (p_ne rfl rfl) ?_
     refine o_mv rfl rfl ?_
     refine o_or (p := 145) 3 (!(Bl.may ff (names.getD (((((Lru.run (⟨room, []⟩ : DCache) keys).1).keys).getD i2 default).toNat) default))) ?_ ?_ ?_
     ·intro hb46 hk
      simp only [bne_eq_false_iff_eq] at hb46
      refine o_unguard 142 rfl rfl ?_
      refine o_mv rfl rfl ?_
      refine o_unguard 142 rfl rfl ?_
      refine o_p (p_not (b := (Bl.may ff (names.getD (((((Lru.run (⟨room, []⟩ : DCache) keys).1).keys).getD i2 default).toNat) default))) rfl) ?_
      refine o_pf rfl rfl rfl ?_
      exact o_sub (sr (Sub.skip rfl (Sub.skip rfl (Sub.skip rfl (Sub.skip rfl (Sub.refl _)))))) hk
     ·intro hb46 hk
      refine o_guard_no rfl 142 rfl rfl rfl rfl rfl ?_
      refine o_guard_no rfl 142 rfl rfl rfl rfl rfl ?_
      refine o_pt rfl rfl rfl ?_
      exact o_sub (sr (Sub.skip rfl (Sub.skip rfl (Sub.skip rfl (Sub.skip rfl (Sub.refl _)))))) hk
     refine o_nil (q_then ?_)
     refine c_cond rfl (fun hc47 => ?_) (fun hc47 => ?_)
     ·simp only [Bool.or_eq_true, bne_iff_ne, ne_eq, Bool.not_eq_true'] at hc47
      exfalso; have hq := hc47; rw [hka.1, hka.2] at hq; simp at hq
     ·simp only [Bool.or_eq_false_iff, bne_eq_false_iff_eq, Bool.not_eq_false'] at hc47
      refine c_skip ?_
      refine q_block_normal (q_then ?_)
      refine c_region ?_
      refine o_mv rfl rfl ?_
      refine o_p (p_addb rfl rfl (by omega)) ?_
      refine o_as rfl rfl ?_
      refine o_nil ?_
      refine q_round hK42 (i2 + 1) ?_ ?_ ?_ ?_
      ·clear hK42
       (try dsimp only); omega
      ·(try dsimp only); omega
      ·exact sr (sr (sr (sr (sr (Sub.nil _)))))
      ·exact pk [0, 1, 2, 3, 4, 5, 6]
   ·simp only [decide_eq_false_iff_not, Int.not_lt] at hc43
    refine c_exit ?_
    refine q_then_exit (q_then_exit (q_block_exit (q_then ?_)))
    refine c_seq (c_region ?_)
    refine o_p (p_load_agg (i := 5) (vs := [Vi ff.size, Vi ff.hashes, .slice aff_0 ff.set.length cff_0]) rfl rfl sh24 rfl rfl) ?_
    refine o_mv rfl rfl ?_
    refine o_call0 (v := .tuple #[.bool (Bl.may ff other), Vi (Bl.keyErr ff other)]) rfl (bmay_ok ff aff_0 cff_0 other) hf12 (fun w hw => (rd_own (i := 2) rfl) w hw) rfl ?_
    refine o_mv rfl rfl ?_
    refine o_ex rfl rfl rfl ?_
    refine o_ex rfl rfl rfl ?_
    refine o_as rfl rfl ?_
    refine o_as rfl rfl ?_
    refine o_nil (q_then (c_seq (c_seq (c_region ?_))))
    refine o_mv rfl rfl ?_
    refine o_p (p_ne rfl rfl) ?_
    refine o_mv rfl rfl ?_
    refine o_or (p := 156) 2 (Bl.may ff other) ?_ ?_ ?_
    ·intro hb48 hk
     simp only [bne_eq_false_iff_eq] at hb48
     refine o_unguard 154 rfl rfl ?_
     refine o_mv rfl rfl ?_
     refine o_pf rfl rfl rfl ?_
     exact o_sub (sr (Sub.skip rfl (Sub.skip rfl (Sub.skip rfl (Sub.refl _))))) hk
    ·intro hb48 hk
     refine o_guard_no rfl 154 rfl rfl rfl rfl rfl ?_
     refine o_pt rfl rfl rfl ?_
     exact o_sub (sr (Sub.skip rfl (Sub.skip rfl (Sub.skip rfl (Sub.refl _))))) hk
    refine o_nil (q_then ?_)
    refine c_cond rfl (fun hc49 => ?_) (fun hc49 => ?_)
    ·simp only [Bool.or_eq_true, bne_iff_ne, ne_eq] at hc49
     refine c_seq (c_region ?_)
     refine o_as rfl rfl ?_
     refine o_nil (q_then (c_ret ?_))
     refine q_then_ret ?_
     refine q_end0 (v := .bool true) (rt1 rfl (r_tmp rfl)) (i := 6) rfl ?_
     exact rfl
    ·simp only [Bool.or_eq_false_iff, bne_eq_false_iff_eq] at hc49
     have hno := hc49
     refine c_skip (q_then (c_seq (c_seq (c_region ?_))))
     refine o_as rfl rfl ?_
     refine o_nil (q_then (c_block ?_))
     refine c_loop (St := Nat)
      (fun i3 => [(4, .string other), (13, .slice anames names.length cnames), (27, Vi (i3 : Int))])
      (fun i3 => [box B40 [Vi (((Lru.run (⟨room, []⟩ : DCache) keys).1).room), .slice a37 (((Lru.run (⟨room, []⟩ : DCache) keys).1).keys).length c38] 50, own tInt S35 a37 c38 (((Lru.run (⟨room, []⟩ : DCache) keys).1).keys), own tInt Sff_0 aff_0 cff_0 ff.set, own tStr Snames anames cnames names, own tInt Skeys akeys ckeys keys, box B1 [Vi ff.size, Vi ff.hashes, .slice aff_0 ff.set.length cff_0] 24, base w0])
      (fun i3 => i3 ≤ names.length)
      (fun i3 => names.length - i3)
      0 ?_ (sr (sr (sr (Sub.nil _)))) (fun _ hw => hw) ?_
     ·exact Nat.zero_le _
     rintro i3 hI K hK50
     show SC _ _ Try.prog 169 w0 _ _ [(4, .string other), (13, .slice anames names.length cnames), (27, Vi (i3 : Int))] [box B40 [Vi (((Lru.run (⟨room, []⟩ : DCache) keys).1).room), .slice a37 (((Lru.run (⟨room, []⟩ : DCache) keys).1).keys).length c38] 50, own tInt S35 a37 c38 (((Lru.run (⟨room, []⟩ : DCache) keys).1).keys), own tInt Sff_0 aff_0 cff_0 ff.set, own tStr Snames anames cnames names, own tInt Skeys akeys ckeys keys, box B1 [Vi ff.size, Vi ff.hashes, .slice aff_0 ff.set.length cff_0] 24, base w0]
     refine c_seq (c_seq (c_region ?_))
     refine o_mv rfl rfl ?_
     refine o_mv rfl rfl ?_
     refine o_p (p_len_slice rfl rfl Try.underlying42) ?_
     refine o_p (p_lt rfl rfl) ?_
     refine o_nil (q_then ?_)
     refine c_cond rfl (fun hc51 => ?_) (fun hc51 => ?_)
     ·simp only [decide_eq_true_eq] at hc51
      refine c_skip (q_then (c_seq (c_block (c_seq (c_region ?_)))))
      refine o_mv rfl rfl ?_
      refine o_mv rfl rfl ?_
      refine o_p (p_indexAddr (L := names) (T := tStr) (i := (i3 : Int)) rfl rfl (rd_own (i := 3) rfl) Try.underlying42 sz9 (by omega) (by omega)) ?_
      refine o_p (p_loadE1 (i := i3) (T := tStr) (L := names) (v := .string (names.getD i3 default)) rfl (rd_own (i := 3) rfl) (by first | assumption | omega) sh9 (congrArg tStr.enc (getd_at (by first | assumption | omega) default))) ?_
      refine o_mv rfl rfl ?_
      refine o_p (p_eqStr (s := (names.getD i3 default)) (t := other) rfl rfl) ?_
      refine o_nil (q_then ?_)
      refine c_cond rfl (fun hc52 => ?_) (fun hc52 => ?_)
      ·simp only [decide_eq_true_eq] at hc52
       exfalso; have hq := hc52; have h9 := hT.at_ (j := i3) (by omega); rw [hq] at h9; simp_all
      ·simp only [decide_eq_false_iff_not] at hc52
       refine c_skip ?_
       refine q_block_normal (q_then ?_)
       refine c_region ?_
       refine o_mv rfl rfl ?_
       refine o_p (p_addb rfl rfl (by omega)) ?_
       refine o_as rfl rfl ?_
       refine o_nil ?_
       refine q_round hK50 (i3 + 1) ?_ ?_ ?_ ?_
       ·clear hK50
        (try dsimp only); omega
       ·(try dsimp only); omega
       ·exact sr (sr (sr (Sub.nil _)))
       ·exact pk [0, 1, 2, 3, 4, 5, 6]
     ·simp only [decide_eq_false_iff_not, Int.not_lt] at hc51
      refine c_exit ?_
      refine q_then_exit (q_then_exit (q_block_exit (q_then ?_)))
      refine c_seq (c_region ?_)
      refine o_as rfl rfl ?_
      refine o_nil (q_then (c_ret ?_))
      refine q_end0 (v := .bool true) (rt1 rfl (r_tmp rfl)) (i := 6) rfl ?_
      exact rfl
end Go.Proofs.Ytfncgfcehkalnaa

/- How the arguments read. -/
namespace Go.Proofs.Ytfncgfcehkalnaa
open Go.ChangeShapes Go.WideShapes Go.ChangeAt Go.RowKit Go.Sx

end Go.Proofs.Ytfncgfcehkalnaa
