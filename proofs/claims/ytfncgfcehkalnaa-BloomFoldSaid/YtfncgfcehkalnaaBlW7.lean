/- The walks, printed by a program from the translation and a specification. -/
import Derived.Test.YtfncgfcehkalnaaBlF
import Derived.Test.YtfncgfcehkalnaaBlLaw
import Derived.Test.YtfncgfcehkalnaaBlW3
import Derived.Test.YtfncgfcehkalnaaBlW4
import Derived.Test.YtfncgfcehkalnaaBlW5
import Derived.Test.YtfncgfcehkalnaaBlW6
namespace Go.Proofs.Ytfncgfcehkalnaa
open Go.Sx Go.RowKit
set_option maxHeartbeats 8000000 in
set_option maxRecDepth 100000 in
theorem bloomBegun_ok  : Fn0 Try.prog 20 [] (fun _ => True) (.bool true) := by
 refine fn0 (nt := 94) (F0 := []) Try.func20 rfl Try.ntmps20 rfl rfl (fun w0 hpre => ?_)
 refine c_seq (c_region ?_)
 refine o_as rfl rfl ?_
 refine o_nil (q_then (c_seq (c_region ?_)))
 refine o_p (p_build (cells := [Vi 64, Vi 3, .slice none 0 0]) fp24 ze24 rfl rfl) ?_
 refine o_callM rfl (badd_ok (⟨64, 3, []⟩ : DFilter) none 0 (ByteArray.mk #[97])) hf11 (fun w hw => rd_nil w hw) rfl (fun _ _ _ _ ha hA => SlO.agree ha hA) ?_
 rintro ⟨a3, c4⟩ S1
 refine o_know (fun w hw => own_len (i := 0) (T := tInt) hw rfl) (fun hlr5 => ?_)
 refine o_mv rfl rfl ?_
 refine o_ex rfl rfl rfl ?_
 refine o_ex rfl rfl rfl ?_
 refine o_alloc ze24 rfl (fun B6 => ?_)
 refine o_storeN (i := 0) (vs := [Vi ((Bl.add (⟨64, 3, []⟩ : DFilter) (ByteArray.mk #[97])).size), Vi ((Bl.add (⟨64, 3, []⟩ : DFilter) (ByteArray.mk #[97])).hashes), .slice a3 ((Bl.add (⟨64, 3, []⟩ : DFilter) (ByteArray.mk #[97])).set).length c4]) (cs' := [Vi ((Bl.add (⟨64, 3, []⟩ : DFilter) (ByteArray.mk #[97])).size), Vi ((Bl.add (⟨64, 3, []⟩ : DFilter) (ByteArray.mk #[97])).hashes), .slice a3 ((Bl.add (⟨64, 3, []⟩ : DFilter) (ByteArray.mk #[97])).set).length c4]) rfl rfl rfl sz24 rfl rfl rfl rfl ?_
 refine o_as rfl rfl ?_
 refine o_nil (q_then (c_seq (c_region ?_)))
 refine o_p (p_load_agg (i := 0) (vs := [Vi ((Bl.add (⟨64, 3, []⟩ : DFilter) (ByteArray.mk #[97])).size), Vi ((Bl.add (⟨64, 3, []⟩ : DFilter) (ByteArray.mk #[97])).hashes), .slice a3 ((Bl.add (⟨64, 3, []⟩ : DFilter) (ByteArray.mk #[97])).set).length c4]) rfl rfl sh24 rfl rfl) ?_
 refine o_call0 (v := .tuple #[.bool (Bl.may (Bl.add (⟨64, 3, []⟩ : DFilter) (ByteArray.mk #[97])) (ByteArray.mk #[97])), Vi (Bl.keyErr (Bl.add (⟨64, 3, []⟩ : DFilter) (ByteArray.mk #[97])) (ByteArray.mk #[97]))]) rfl (bmay_ok (Bl.add (⟨64, 3, []⟩ : DFilter) (ByteArray.mk #[97])) a3 c4 (ByteArray.mk #[97])) hf12 (fun w hw => (rd_own (i := 1) rfl) w hw) rfl ?_
 refine o_mv rfl rfl ?_
 refine o_ex rfl rfl rfl ?_
 refine o_ex rfl rfl rfl ?_
 refine o_as rfl rfl ?_
 refine o_as rfl rfl ?_
 refine o_nil (q_then (c_seq (c_region ?_)))
 refine o_p (p_load_agg (i := 0) (vs := [Vi ((Bl.add (⟨64, 3, []⟩ : DFilter) (ByteArray.mk #[97])).size), Vi ((Bl.add (⟨64, 3, []⟩ : DFilter) (ByteArray.mk #[97])).hashes), .slice a3 ((Bl.add (⟨64, 3, []⟩ : DFilter) (ByteArray.mk #[97])).set).length c4]) rfl rfl sh24 rfl rfl) ?_
 refine o_callM rfl (bbits_ok (Bl.add (⟨64, 3, []⟩ : DFilter) (ByteArray.mk #[97])) a3 c4 (ByteArray.mk #[97])) hf10 (fun w hw => (rd_own (i := 1) rfl) w hw) rfl (fun _ _ _ _ ha hA => SlO.agree ha hA) ?_
 rintro ⟨a9, c10⟩ S7
 refine o_know (fun w hw => own_len (i := 0) (T := tInt) hw rfl) (fun hlr11 => ?_)
 refine o_mv rfl rfl ?_
 refine o_ex rfl rfl rfl ?_
 refine o_ex rfl rfl rfl ?_
 refine o_as rfl rfl ?_
 refine o_as rfl rfl ?_
 refine o_nil (q_then (c_seq (c_region ?_)))
 refine o_p (p_build (cells := [Vi 64, Vi 3, .slice none 0 0]) fp24 ze24 rfl rfl) ?_
 refine o_call0 (v := .tuple #[.bool (Bl.may (⟨64, 3, []⟩ : DFilter) (ByteArray.mk #[97])), Vi (Bl.keyErr (⟨64, 3, []⟩ : DFilter) (ByteArray.mk #[97]))]) rfl (bmay_ok (⟨64, 3, []⟩ : DFilter) none 0 (ByteArray.mk #[97])) hf12 (fun w hw => rd_nil w hw) rfl ?_
 refine o_mv rfl rfl ?_
 refine o_ex rfl rfl rfl ?_
 refine o_ex rfl rfl rfl ?_
 refine o_as rfl rfl ?_
 refine o_as rfl rfl ?_
 refine o_nil (q_then (c_seq (c_region ?_)))
 refine o_p (p_load_agg (i := 1) (vs := [Vi ((Bl.add (⟨64, 3, []⟩ : DFilter) (ByteArray.mk #[97])).size), Vi ((Bl.add (⟨64, 3, []⟩ : DFilter) (ByteArray.mk #[97])).hashes), .slice a3 ((Bl.add (⟨64, 3, []⟩ : DFilter) (ByteArray.mk #[97])).set).length c4]) rfl rfl sh24 rfl rfl) ?_
 refine o_p (p_build (cells := [Vi 64, Vi 3, .slice none 0 0]) fp24 ze24 rfl rfl) ?_
 refine o_callM rfl (bunion_ok (Bl.add (⟨64, 3, []⟩ : DFilter) (ByteArray.mk #[97])) a3 c4 (⟨64, 3, []⟩ : DFilter) none 0) hf13 (fun w hw => ⟨(rd_own (i := 2) rfl) w hw, rd_nil w hw⟩) rfl (fun _ _ _ _ ha hA => SlO.agree ha hA) ?_
 rintro ⟨a14, c15⟩ S12
 refine o_know (fun w hw => own_len (i := 0) (T := tInt) hw rfl) (fun hlr16 => ?_)
 refine o_mv rfl rfl ?_
 refine o_ex rfl rfl rfl ?_
 refine o_ex rfl rfl rfl ?_
 refine o_alloc ze24 rfl (fun B17 => ?_)
 refine o_storeN (i := 0) (vs := [Vi ((Bl.uni (Bl.add (⟨64, 3, []⟩ : DFilter) (ByteArray.mk #[97])) (⟨64, 3, []⟩ : DFilter)).size), Vi ((Bl.uni (Bl.add (⟨64, 3, []⟩ : DFilter) (ByteArray.mk #[97])) (⟨64, 3, []⟩ : DFilter)).hashes), .slice a14 ((Bl.uni (Bl.add (⟨64, 3, []⟩ : DFilter) (ByteArray.mk #[97])) (⟨64, 3, []⟩ : DFilter)).set).length c15]) (cs' := [Vi ((Bl.uni (Bl.add (⟨64, 3, []⟩ : DFilter) (ByteArray.mk #[97])) (⟨64, 3, []⟩ : DFilter)).size), Vi ((Bl.uni (Bl.add (⟨64, 3, []⟩ : DFilter) (ByteArray.mk #[97])) (⟨64, 3, []⟩ : DFilter)).hashes), .slice a14 ((Bl.uni (Bl.add (⟨64, 3, []⟩ : DFilter) (ByteArray.mk #[97])) (⟨64, 3, []⟩ : DFilter)).set).length c15]) rfl rfl rfl sz24 rfl rfl rfl rfl ?_
 refine o_as rfl rfl ?_
 refine o_nil (q_then (c_seq (c_region ?_)))
 refine o_p (p_build (cells := [Vi 3, Vi 1, .slice none 0 0]) fp24 ze24 rfl rfl) ?_
 refine o_callM rfl (bfold_ok (⟨3, 1, []⟩ : DFilter) none 0) hf14 (fun w hw => rd_nil w hw) rfl (fun _ _ _ _ ha hA => SlO.agree ha hA) ?_
 rintro ⟨a20, c21⟩ S18
 refine o_know (fun w hw => own_len (i := 0) (T := tInt) hw rfl) (fun hlr22 => ?_)
 refine o_mv rfl rfl ?_
 refine o_ex rfl rfl rfl ?_
 refine o_ex rfl rfl rfl ?_
 refine o_alloc ze24 rfl (fun B23 => ?_)
 refine o_storeN (i := 0) (vs := [Vi ((Bl.fold (⟨3, 1, []⟩ : DFilter)).size), Vi ((Bl.fold (⟨3, 1, []⟩ : DFilter)).hashes), .slice a20 ((Bl.fold (⟨3, 1, []⟩ : DFilter)).set).length c21]) (cs' := [Vi ((Bl.fold (⟨3, 1, []⟩ : DFilter)).size), Vi ((Bl.fold (⟨3, 1, []⟩ : DFilter)).hashes), .slice a20 ((Bl.fold (⟨3, 1, []⟩ : DFilter)).set).length c21]) rfl rfl rfl sz24 rfl rfl rfl rfl ?_
 refine o_as rfl rfl ?_
 refine o_nil (q_then (c_seq (c_region ?_)))
 refine o_mv rfl rfl ?_
 refine o_p (p_eq rfl rfl) ?_
 refine o_mv rfl rfl ?_
 refine o_and (p := 48) 2 (Bl.may (Bl.add (⟨64, 3, []⟩ : DFilter) (ByteArray.mk #[97])) (ByteArray.mk #[97])) ?_ ?_ ?_
 ·intro hb24 hk
  simp only [beq_iff_eq] at hb24
  refine o_unguard 46 rfl rfl ?_
  refine o_mv rfl rfl ?_
  refine o_pt rfl rfl rfl ?_
  exact o_sub (sr (Sub.skip rfl (Sub.skip rfl (Sub.skip rfl (Sub.refl _))))) hk
 ·intro hb24 hk
  refine o_guard_no rfl 46 rfl rfl rfl rfl rfl ?_
  refine o_pf rfl rfl rfl ?_
  exact o_sub (sr (Sub.skip rfl (Sub.skip rfl (Sub.skip rfl (Sub.refl _))))) hk
 refine o_mv rfl rfl ?_
 refine o_and (p := 52) 3 ((Bl.keyErr (Bl.add (⟨64, 3, []⟩ : DFilter) (ByteArray.mk #[97])) (ByteArray.mk #[97])) == 0) ?_ ?_ ?_
 ·intro hb25 hk
  simp only [Bool.and_eq_true, beq_iff_eq] at hb25
  refine o_unguard 49 rfl rfl ?_
  refine o_mv rfl rfl ?_
  refine o_unguard 49 rfl rfl ?_
  refine o_p (p_eq rfl rfl) ?_
  refine o_pt rfl rfl rfl ?_
  exact o_sub (sr (Sub.skip rfl (Sub.skip rfl (Sub.skip rfl (Sub.skip rfl (Sub.refl _)))))) hk
 ·intro hb25 hk
  refine o_guard_no rfl 49 rfl rfl rfl rfl rfl ?_
  refine o_guard_no rfl 49 rfl rfl rfl rfl rfl ?_
  refine o_pf rfl rfl rfl ?_
  exact o_sub (sr (Sub.skip rfl (Sub.skip rfl (Sub.skip rfl (Sub.skip rfl (Sub.refl _)))))) hk
 refine o_mv rfl rfl ?_
 refine o_and (p := 58) 5 (Ref.sameInts (Bl.bits (Bl.add (⟨64, 3, []⟩ : DFilter) (ByteArray.mk #[97])) (ByteArray.mk #[97])) ((Bl.add (⟨64, 3, []⟩ : DFilter) (ByteArray.mk #[97])).set)) ?_ ?_ ?_
 ·intro hb26 hk
  simp only [Bool.and_eq_true, beq_iff_eq] at hb26
  refine o_unguard 53 rfl rfl ?_
  refine o_mv rfl rfl ?_
  refine o_unguard 53 rfl rfl ?_
  refine o_p (p_fieldAddr (j' := 2) rfl fo24_2 rfl) ?_
  refine o_unguard 53 rfl rfl ?_
  refine o_p (p_load (i := 5) (v := .slice a3 ((Bl.add (⟨64, 3, []⟩ : DFilter) (ByteArray.mk #[97])).set).length c4) rfl rfl sh22 rfl) ?_
  refine o_unguard 53 rfl rfl ?_
  refine o_call0 (v := .bool (Ref.sameInts (Bl.bits (Bl.add (⟨64, 3, []⟩ : DFilter) (ByteArray.mk #[97])) (ByteArray.mk #[97])) ((Bl.add (⟨64, 3, []⟩ : DFilter) (ByteArray.mk #[97])).set))) rfl (sameInts_ok (Bl.bits (Bl.add (⟨64, 3, []⟩ : DFilter) (ByteArray.mk #[97])) (ByteArray.mk #[97])) a9 c10 ((Bl.add (⟨64, 3, []⟩ : DFilter) (ByteArray.mk #[97])).set) a3 c4) hf18 (fun w hw => ⟨(rd_own (i := 4) rfl) w hw, (rd_own (i := 6) rfl) w hw⟩) rfl ?_
  refine o_pt rfl rfl rfl ?_
  exact o_sub (sr (Sub.skip rfl (Sub.skip rfl (Sub.skip rfl (Sub.skip rfl (Sub.skip rfl (Sub.skip rfl (Sub.refl _)))))))) hk
 ·intro hb26 hk
  refine o_guard_no rfl 53 rfl rfl rfl rfl rfl ?_
  refine o_guard_no rfl 53 rfl rfl rfl rfl rfl ?_
  refine o_guard_no rfl 53 rfl rfl rfl rfl rfl ?_
  refine o_guard_no rfl 53 rfl rfl rfl rfl rfl ?_
  refine o_pf rfl rfl rfl ?_
  exact o_sub (sr (Sub.skip rfl (Sub.skip rfl (Sub.skip rfl (Sub.skip rfl (Sub.skip rfl (Sub.skip rfl (Sub.refl _)))))))) hk
 refine o_mv rfl rfl ?_
 refine o_and (p := 63) 4 (decide (0 < ((Bl.bits (Bl.add (⟨64, 3, []⟩ : DFilter) (ByteArray.mk #[97])) (ByteArray.mk #[97])).length : Int))) ?_ ?_ ?_
 ·intro hb27 hk
  simp only [Bool.and_eq_true, beq_iff_eq] at hb27
  refine o_unguard 59 rfl rfl ?_
  refine o_mv rfl rfl ?_
  refine o_unguard 59 rfl rfl ?_
  refine o_p (p_len_slice rfl rfl Try.underlying22) ?_
  refine o_unguard 59 rfl rfl ?_
  refine o_p (p_gt rfl rfl) ?_
  refine o_pt rfl rfl rfl ?_
  exact o_sub (sr (Sub.skip rfl (Sub.skip rfl (Sub.skip rfl (Sub.skip rfl (Sub.skip rfl (Sub.refl _))))))) hk
 ·intro hb27 hk
  refine o_guard_no rfl 59 rfl rfl rfl rfl rfl ?_
  refine o_guard_no rfl 59 rfl rfl rfl rfl rfl ?_
  refine o_guard_no rfl 59 rfl rfl rfl rfl rfl ?_
  refine o_pf rfl rfl rfl ?_
  exact o_sub (sr (Sub.skip rfl (Sub.skip rfl (Sub.skip rfl (Sub.skip rfl (Sub.skip rfl (Sub.refl _))))))) hk
 refine o_mv rfl rfl ?_
 refine o_and (p := 67) 3 ((Bl.keyErr (Bl.add (⟨64, 3, []⟩ : DFilter) (ByteArray.mk #[97])) (ByteArray.mk #[97])) == 0) ?_ ?_ ?_
 ·intro hb28 hk
  simp only [Bool.and_eq_true, beq_iff_eq, decide_eq_true_eq] at hb28
  refine o_unguard 64 rfl rfl ?_
  refine o_mv rfl rfl ?_
  refine o_unguard 64 rfl rfl ?_
  refine o_p (p_eq rfl rfl) ?_
  refine o_pt rfl rfl rfl ?_
  exact o_sub (sr (Sub.skip rfl (Sub.skip rfl (Sub.skip rfl (Sub.skip rfl (Sub.refl _)))))) hk
 ·intro hb28 hk
  refine o_guard_no rfl 64 rfl rfl rfl rfl rfl ?_
  refine o_guard_no rfl 64 rfl rfl rfl rfl rfl ?_
  refine o_pf rfl rfl rfl ?_
  exact o_sub (sr (Sub.skip rfl (Sub.skip rfl (Sub.skip rfl (Sub.skip rfl (Sub.refl _)))))) hk
 refine o_mv rfl rfl ?_
 refine o_and (p := 71) 3 (!(Bl.may (⟨64, 3, []⟩ : DFilter) (ByteArray.mk #[97]))) ?_ ?_ ?_
 ·intro hb29 hk
  simp only [Bool.and_eq_true, beq_iff_eq, decide_eq_true_eq] at hb29
  refine o_unguard 68 rfl rfl ?_
  refine o_mv rfl rfl ?_
  refine o_unguard 68 rfl rfl ?_
  refine o_p (p_not (b := (Bl.may (⟨64, 3, []⟩ : DFilter) (ByteArray.mk #[97]))) rfl) ?_
  refine o_pt rfl rfl rfl ?_
  exact o_sub (sr (Sub.skip rfl (Sub.skip rfl (Sub.skip rfl (Sub.skip rfl (Sub.refl _)))))) hk
 ·intro hb29 hk
  refine o_guard_no rfl 68 rfl rfl rfl rfl rfl ?_
  refine o_guard_no rfl 68 rfl rfl rfl rfl rfl ?_
  refine o_pf rfl rfl rfl ?_
  exact o_sub (sr (Sub.skip rfl (Sub.skip rfl (Sub.skip rfl (Sub.skip rfl (Sub.refl _)))))) hk
 refine o_mv rfl rfl ?_
 refine o_and (p := 75) 3 ((Bl.keyErr (⟨64, 3, []⟩ : DFilter) (ByteArray.mk #[97])) == 0) ?_ ?_ ?_
 ·intro hb30 hk
  simp only [Bool.and_eq_true, beq_iff_eq, decide_eq_true_eq, Bool.not_eq_true'] at hb30
  refine o_unguard 72 rfl rfl ?_
  refine o_mv rfl rfl ?_
  refine o_unguard 72 rfl rfl ?_
  refine o_p (p_eq rfl rfl) ?_
  refine o_pt rfl rfl rfl ?_
  exact o_sub (sr (Sub.skip rfl (Sub.skip rfl (Sub.skip rfl (Sub.skip rfl (Sub.refl _)))))) hk
 ·intro hb30 hk
  refine o_guard_no rfl 72 rfl rfl rfl rfl rfl ?_
  refine o_guard_no rfl 72 rfl rfl rfl rfl rfl ?_
  refine o_pf rfl rfl rfl ?_
  exact o_sub (sr (Sub.skip rfl (Sub.skip rfl (Sub.skip rfl (Sub.skip rfl (Sub.refl _)))))) hk
 refine o_mv rfl rfl ?_
 refine o_and (p := 80) 4 (decide ((Bl.uni (Bl.add (⟨64, 3, []⟩ : DFilter) (ByteArray.mk #[97])) (⟨64, 3, []⟩ : DFilter)) = (Bl.add (⟨64, 3, []⟩ : DFilter) (ByteArray.mk #[97])))) ?_ ?_ ?_
 ·intro hb31 hk
  simp only [Bool.and_eq_true, beq_iff_eq, decide_eq_true_eq, Bool.not_eq_true'] at hb31
  refine o_unguard 76 rfl rfl ?_
  refine o_p (p_load_agg (i := 2) (vs := [Vi ((Bl.uni (Bl.add (⟨64, 3, []⟩ : DFilter) (ByteArray.mk #[97])) (⟨64, 3, []⟩ : DFilter)).size), Vi ((Bl.uni (Bl.add (⟨64, 3, []⟩ : DFilter) (ByteArray.mk #[97])) (⟨64, 3, []⟩ : DFilter)).hashes), .slice a14 ((Bl.uni (Bl.add (⟨64, 3, []⟩ : DFilter) (ByteArray.mk #[97])) (⟨64, 3, []⟩ : DFilter)).set).length c15]) rfl rfl sh24 rfl rfl) ?_
  refine o_unguard 76 rfl rfl ?_
  refine o_p (p_load_agg (i := 5) (vs := [Vi ((Bl.add (⟨64, 3, []⟩ : DFilter) (ByteArray.mk #[97])).size), Vi ((Bl.add (⟨64, 3, []⟩ : DFilter) (ByteArray.mk #[97])).hashes), .slice a3 ((Bl.add (⟨64, 3, []⟩ : DFilter) (ByteArray.mk #[97])).set).length c4]) rfl rfl sh24 rfl rfl) ?_
  refine o_unguard 76 rfl rfl ?_
  refine o_call0 (v := .bool (decide ((Bl.uni (Bl.add (⟨64, 3, []⟩ : DFilter) (ByteArray.mk #[97])) (⟨64, 3, []⟩ : DFilter)) = (Bl.add (⟨64, 3, []⟩ : DFilter) (ByteArray.mk #[97]))))) rfl (sameFilter_ok (Bl.uni (Bl.add (⟨64, 3, []⟩ : DFilter) (ByteArray.mk #[97])) (⟨64, 3, []⟩ : DFilter)) a14 c15 (Bl.add (⟨64, 3, []⟩ : DFilter) (ByteArray.mk #[97])) a3 c4) hf22 (fun w hw => ⟨(rd_own (i := 3) rfl) w hw, (rd_own (i := 6) rfl) w hw⟩) rfl ?_
  refine o_pt rfl rfl rfl ?_
  exact o_sub (sr (Sub.skip rfl (Sub.skip rfl (Sub.skip rfl (Sub.skip rfl (Sub.skip rfl (Sub.refl _))))))) hk
 ·intro hb31 hk
  refine o_guard_no rfl 76 rfl rfl rfl rfl rfl ?_
  refine o_guard_no rfl 76 rfl rfl rfl rfl rfl ?_
  refine o_guard_no rfl 76 rfl rfl rfl rfl rfl ?_
  refine o_pf rfl rfl rfl ?_
  exact o_sub (sr (Sub.skip rfl (Sub.skip rfl (Sub.skip rfl (Sub.skip rfl (Sub.skip rfl (Sub.refl _))))))) hk
 refine o_mv rfl rfl ?_
 refine o_and (p := 84) 3 ((Bl.uniErr (Bl.add (⟨64, 3, []⟩ : DFilter) (ByteArray.mk #[97])) (⟨64, 3, []⟩ : DFilter)) == 0) ?_ ?_ ?_
 ·intro hb32 hk
  simp only [Bool.and_eq_true, beq_iff_eq, decide_eq_true_eq, Bool.not_eq_true'] at hb32
  refine o_unguard 81 rfl rfl ?_
  refine o_mv rfl rfl ?_
  refine o_unguard 81 rfl rfl ?_
  refine o_p (p_eq rfl rfl) ?_
  refine o_pt rfl rfl rfl ?_
  exact o_sub (sr (Sub.skip rfl (Sub.skip rfl (Sub.skip rfl (Sub.skip rfl (Sub.refl _)))))) hk
 ·intro hb32 hk
  refine o_guard_no rfl 81 rfl rfl rfl rfl rfl ?_
  refine o_guard_no rfl 81 rfl rfl rfl rfl rfl ?_
  refine o_pf rfl rfl rfl ?_
  exact o_sub (sr (Sub.skip rfl (Sub.skip rfl (Sub.skip rfl (Sub.skip rfl (Sub.refl _)))))) hk
 refine o_mv rfl rfl ?_
 refine o_and (p := 88) 3 ((Bl.foldErr (⟨3, 1, []⟩ : DFilter)) == 4) ?_ ?_ ?_
 ·intro hb33 hk
  simp only [Bool.and_eq_true, beq_iff_eq, decide_eq_true_eq, Bool.not_eq_true'] at hb33
  refine o_unguard 85 rfl rfl ?_
  refine o_mv rfl rfl ?_
  refine o_unguard 85 rfl rfl ?_
  refine o_p (p_eq rfl rfl) ?_
  refine o_pt rfl rfl rfl ?_
  exact o_sub (sr (Sub.skip rfl (Sub.skip rfl (Sub.skip rfl (Sub.skip rfl (Sub.refl _)))))) hk
 ·intro hb33 hk
  refine o_guard_no rfl 85 rfl rfl rfl rfl rfl ?_
  refine o_guard_no rfl 85 rfl rfl rfl rfl rfl ?_
  refine o_pf rfl rfl rfl ?_
  exact o_sub (sr (Sub.skip rfl (Sub.skip rfl (Sub.skip rfl (Sub.skip rfl (Sub.refl _)))))) hk
 refine o_mv rfl rfl ?_
 refine o_and (p := 93) 4 ((Bl.check (⟨0, 0, []⟩ : DFilter)) == 3) ?_ ?_ ?_
 ·intro hb34 hk
  simp only [Bool.and_eq_true, beq_iff_eq, decide_eq_true_eq, Bool.not_eq_true'] at hb34
  refine o_unguard 89 rfl rfl ?_
  refine o_p (p_build (cells := [Vi 0, Vi 0, .slice none 0 0]) fp24 ze24 rfl rfl) ?_
  refine o_unguard 89 rfl rfl ?_
  refine o_call0 (v := Vi (Bl.check (⟨0, 0, []⟩ : DFilter))) rfl (bcheck_ok (⟨0, 0, []⟩ : DFilter) none 0) hf21 (fun w hw => rd_nil w hw) rfl ?_
  refine o_unguard 89 rfl rfl ?_
  refine o_p (p_eq rfl rfl) ?_
  refine o_pt rfl rfl rfl ?_
  exact o_sub (sr (Sub.skip rfl (Sub.skip rfl (Sub.skip rfl (Sub.skip rfl (Sub.skip rfl (Sub.refl _))))))) hk
 ·intro hb34 hk
  refine o_guard_no rfl 89 rfl rfl rfl rfl rfl ?_
  refine o_guard_no rfl 89 rfl rfl rfl rfl rfl ?_
  refine o_guard_no rfl 89 rfl rfl rfl rfl rfl ?_
  refine o_pf rfl rfl rfl ?_
  exact o_sub (sr (Sub.skip rfl (Sub.skip rfl (Sub.skip rfl (Sub.skip rfl (Sub.skip rfl (Sub.refl _))))))) hk
 refine o_as rfl rfl ?_
 refine o_nil (q_then (c_ret ?_))
 have hr0 : ((((((((((((((Bl.keyErr (⟨64, 3, []⟩ : DFilter) (ByteArray.mk #[97])) == 0) && (Bl.may (Bl.add (⟨64, 3, []⟩ : DFilter) (ByteArray.mk #[97])) (ByteArray.mk #[97]))) && ((Bl.keyErr (Bl.add (⟨64, 3, []⟩ : DFilter) (ByteArray.mk #[97])) (ByteArray.mk #[97])) == 0)) && (Ref.sameInts (Bl.bits (Bl.add (⟨64, 3, []⟩ : DFilter) (ByteArray.mk #[97])) (ByteArray.mk #[97])) ((Bl.add (⟨64, 3, []⟩ : DFilter) (ByteArray.mk #[97])).set))) && decide (0 < ((Bl.bits (Bl.add (⟨64, 3, []⟩ : DFilter) (ByteArray.mk #[97])) (ByteArray.mk #[97])).length : Int))) && ((Bl.keyErr (Bl.add (⟨64, 3, []⟩ : DFilter) (ByteArray.mk #[97])) (ByteArray.mk #[97])) == 0)) && (!(Bl.may (⟨64, 3, []⟩ : DFilter) (ByteArray.mk #[97])))) && ((Bl.keyErr (⟨64, 3, []⟩ : DFilter) (ByteArray.mk #[97])) == 0)) && (decide ((Bl.uni (Bl.add (⟨64, 3, []⟩ : DFilter) (ByteArray.mk #[97])) (⟨64, 3, []⟩ : DFilter)) = (Bl.add (⟨64, 3, []⟩ : DFilter) (ByteArray.mk #[97]))))) && ((Bl.uniErr (Bl.add (⟨64, 3, []⟩ : DFilter) (ByteArray.mk #[97])) (⟨64, 3, []⟩ : DFilter)) == 0)) && ((Bl.foldErr (⟨3, 1, []⟩ : DFilter)) == 4)) && ((Bl.check (⟨0, 0, []⟩ : DFilter)) == 3)) : Bool) = true := by
  first | rfl | decide +kernel
 refine q_end0 (v := .bool (((((((((((((Bl.keyErr (⟨64, 3, []⟩ : DFilter) (ByteArray.mk #[97])) == 0) && (Bl.may (Bl.add (⟨64, 3, []⟩ : DFilter) (ByteArray.mk #[97])) (ByteArray.mk #[97]))) && ((Bl.keyErr (Bl.add (⟨64, 3, []⟩ : DFilter) (ByteArray.mk #[97])) (ByteArray.mk #[97])) == 0)) && (Ref.sameInts (Bl.bits (Bl.add (⟨64, 3, []⟩ : DFilter) (ByteArray.mk #[97])) (ByteArray.mk #[97])) ((Bl.add (⟨64, 3, []⟩ : DFilter) (ByteArray.mk #[97])).set))) && decide (0 < ((Bl.bits (Bl.add (⟨64, 3, []⟩ : DFilter) (ByteArray.mk #[97])) (ByteArray.mk #[97])).length : Int))) && ((Bl.keyErr (Bl.add (⟨64, 3, []⟩ : DFilter) (ByteArray.mk #[97])) (ByteArray.mk #[97])) == 0)) && (!(Bl.may (⟨64, 3, []⟩ : DFilter) (ByteArray.mk #[97])))) && ((Bl.keyErr (⟨64, 3, []⟩ : DFilter) (ByteArray.mk #[97])) == 0)) && (decide ((Bl.uni (Bl.add (⟨64, 3, []⟩ : DFilter) (ByteArray.mk #[97])) (⟨64, 3, []⟩ : DFilter)) = (Bl.add (⟨64, 3, []⟩ : DFilter) (ByteArray.mk #[97]))))) && ((Bl.uniErr (Bl.add (⟨64, 3, []⟩ : DFilter) (ByteArray.mk #[97])) (⟨64, 3, []⟩ : DFilter)) == 0)) && ((Bl.foldErr (⟨3, 1, []⟩ : DFilter)) == 4)) && ((Bl.check (⟨0, 0, []⟩ : DFilter)) == 3))) (rt1 rfl (r_tmp rfl)) (i := 7) rfl ?_
 exact (by have hcc := congrArg (fun (y0 : Bool) => (.bool y0 : Value)) hr0; exact hcc)
end Go.Proofs.Ytfncgfcehkalnaa
