/- The walks, printed by a program from the translation and a specification. -/
import Derived.Test.YthecfjipaepcgaaTaF
import Derived.Test.YthecfjipaepcgaaTaPureM7
namespace Go.Proofs.Ythecfjipaepcgaa
open Go.Sx Go.RowKit
set_option maxHeartbeats 8000000 in
set_option maxRecDepth 100000 in
theorem tableBegun_ok  : Fn0 Try.prog 24 [] (fun _ => True) (.bool true) := by
 refine fn0 (nt := 98) (F0 := []) Try.func24 rfl Try.ntmps24 rfl rfl (fun w0 hpre => ?_)
 refine c_seq (c_region ?_)
 refine o_as rfl rfl ?_
 refine o_nil (q_then (c_seq (c_region ?_)))
 refine o_makeSlice (T := tSlot) (m := 3) (z := (⟨false, ByteArray.empty, 0⟩ : DSlot)) rfl rfl Try.underlying22 el33 ze33 rfl (by decide) (by omega) (by omega) rfl (fun S2 a1 => ?_)
 refine o_callM rfl (tPut_ok (List.replicate 3 (⟨false, ByteArray.empty, 0⟩ : DSlot)) a1 3 (ByteArray.mk #[97]) (5 : Int)) hf16 (fun w hw => (rd_own (i := 0) rfl) w hw) rfl (fun _ _ _ _ ha hA => SlO.agree ha hA) ?_
 rintro ⟨a6, c7⟩ S4
 refine o_know (fun w hw => own_len (i := 0) (T := tSlot) hw rfl) (fun hlr8 => ?_)
 refine o_mv rfl rfl ?_
 refine o_ex rfl rfl rfl ?_
 refine o_ex rfl rfl rfl ?_
 refine o_as rfl rfl ?_
 refine o_as rfl rfl ?_
 refine o_nil (q_then (c_seq (c_region ?_)))
 refine o_mv rfl rfl ?_
 refine o_callM rfl (tPut_ok (Tab.putR (List.replicate 3 (⟨false, ByteArray.empty, 0⟩ : DSlot)) (ByteArray.mk #[97]) (5 : Int)) a6 c7 (ByteArray.mk #[98]) (6 : Int)) hf16 (fun w hw => (rd_own (i := 0) rfl) w hw) rfl (fun _ _ _ _ ha hA => SlO.agree ha hA) ?_
 rintro ⟨a11, c12⟩ S9
 refine o_know (fun w hw => own_len (i := 0) (T := tSlot) hw rfl) (fun hlr13 => ?_)
 refine o_mv rfl rfl ?_
 refine o_ex rfl rfl rfl ?_
 refine o_ex rfl rfl rfl ?_
 refine o_as rfl rfl ?_
 refine o_as rfl rfl ?_
 refine o_nil (q_then (c_seq (c_region ?_)))
 refine o_mv rfl rfl ?_
 refine o_call0 (v := .tuple #[Vi (Tab.has (Tab.putR (Tab.putR (List.replicate 3 (⟨false, ByteArray.empty, 0⟩ : DSlot)) (ByteArray.mk #[97]) (5 : Int)) (ByteArray.mk #[98]) (6 : Int)) (ByteArray.mk #[98])), Vi (Tab.looked (Tab.putR (Tab.putR (List.replicate 3 (⟨false, ByteArray.empty, 0⟩ : DSlot)) (ByteArray.mk #[97]) (5 : Int)) (ByteArray.mk #[98]) (6 : Int)) (ByteArray.mk #[98])), Vi (Tab.keyErr (Tab.putR (Tab.putR (List.replicate 3 (⟨false, ByteArray.empty, 0⟩ : DSlot)) (ByteArray.mk #[97]) (5 : Int)) (ByteArray.mk #[98]) (6 : Int)) (ByteArray.mk #[98]))]) rfl (tget_ok (Tab.putR (Tab.putR (List.replicate 3 (⟨false, ByteArray.empty, 0⟩ : DSlot)) (ByteArray.mk #[97]) (5 : Int)) (ByteArray.mk #[98]) (6 : Int)) a11 c12 (ByteArray.mk #[98])) hf15 (fun w hw => (rd_own (i := 0) rfl) w hw) rfl ?_
 refine o_mv rfl rfl ?_
 refine o_ex rfl rfl rfl ?_
 refine o_ex rfl rfl rfl ?_
 refine o_ex rfl rfl rfl ?_
 refine o_as rfl rfl ?_
 refine o_as rfl rfl ?_
 refine o_as rfl rfl ?_
 refine o_nil (q_then (c_seq (c_region ?_)))
 refine o_mv rfl rfl ?_
 refine o_callM rfl (tdelete_ok (Tab.putR (Tab.putR (List.replicate 3 (⟨false, ByteArray.empty, 0⟩ : DSlot)) (ByteArray.mk #[97]) (5 : Int)) (ByteArray.mk #[98]) (6 : Int)) a11 c12 (ByteArray.mk #[97])) hf17 (fun w hw => (rd_own (i := 0) rfl) w hw) rfl (fun _ _ _ _ ha hA => SlO.agree ha hA) ?_
 rintro ⟨a16, c17⟩ S14
 refine o_know (fun w hw => own_len (i := 0) (T := tSlot) hw rfl) (fun hlr18 => ?_)
 refine o_mv rfl rfl ?_
 refine o_ex rfl rfl rfl ?_
 refine o_ex rfl rfl rfl ?_
 refine o_as rfl rfl ?_
 refine o_as rfl rfl ?_
 refine o_nil (q_then (c_seq (c_region ?_)))
 refine o_mv rfl rfl ?_
 refine o_call0 (v := .tuple #[Vi (Tab.has (Tab.delR (Tab.putR (Tab.putR (List.replicate 3 (⟨false, ByteArray.empty, 0⟩ : DSlot)) (ByteArray.mk #[97]) (5 : Int)) (ByteArray.mk #[98]) (6 : Int)) (ByteArray.mk #[97])) (ByteArray.mk #[97])), Vi (Tab.looked (Tab.delR (Tab.putR (Tab.putR (List.replicate 3 (⟨false, ByteArray.empty, 0⟩ : DSlot)) (ByteArray.mk #[97]) (5 : Int)) (ByteArray.mk #[98]) (6 : Int)) (ByteArray.mk #[97])) (ByteArray.mk #[97])), Vi (Tab.keyErr (Tab.delR (Tab.putR (Tab.putR (List.replicate 3 (⟨false, ByteArray.empty, 0⟩ : DSlot)) (ByteArray.mk #[97]) (5 : Int)) (ByteArray.mk #[98]) (6 : Int)) (ByteArray.mk #[97])) (ByteArray.mk #[97]))]) rfl (tget_ok (Tab.delR (Tab.putR (Tab.putR (List.replicate 3 (⟨false, ByteArray.empty, 0⟩ : DSlot)) (ByteArray.mk #[97]) (5 : Int)) (ByteArray.mk #[98]) (6 : Int)) (ByteArray.mk #[97])) a16 c17 (ByteArray.mk #[97])) hf15 (fun w hw => (rd_own (i := 0) rfl) w hw) rfl ?_
 refine o_mv rfl rfl ?_
 refine o_ex rfl rfl rfl ?_
 refine o_ex rfl rfl rfl ?_
 refine o_ex rfl rfl rfl ?_
 refine o_as rfl rfl ?_
 refine o_as rfl rfl ?_
 refine o_as rfl rfl ?_
 refine o_nil (q_then (c_seq (c_region ?_)))
 refine o_mv rfl rfl ?_
 refine o_callM rfl (tresize_ok (Tab.delR (Tab.putR (Tab.putR (List.replicate 3 (⟨false, ByteArray.empty, 0⟩ : DSlot)) (ByteArray.mk #[97]) (5 : Int)) (ByteArray.mk #[98]) (6 : Int)) (ByteArray.mk #[97])) a16 c17 (1 : Int)) hf18 (fun w hw => (rd_own (i := 0) rfl) w hw) rfl (fun _ _ _ _ ha hA => SlO.agree ha hA) ?_
 rintro ⟨a21, c22⟩ S19
 refine o_know (fun w hw => own_len (i := 0) (T := tSlot) hw rfl) (fun hlr23 => ?_)
 refine o_mv rfl rfl ?_
 refine o_ex rfl rfl rfl ?_
 refine o_ex rfl rfl rfl ?_
 refine o_as rfl rfl ?_
 refine o_as rfl rfl ?_
 refine o_nil (q_then (c_seq (c_region ?_)))
 refine o_mv rfl rfl ?_
 refine o_p (p_eq rfl rfl) ?_
 refine o_mv rfl rfl ?_
 refine o_and (p := 51) 3 ((Tab.putErr (Tab.putR (List.replicate 3 (⟨false, ByteArray.empty, 0⟩ : DSlot)) (ByteArray.mk #[97]) (5 : Int)) (ByteArray.mk #[98]) (6 : Int)) == 0) ?_ ?_ ?_
 ·intro hb24 hk
  simp only [beq_iff_eq] at hb24
  refine o_unguard 48 rfl rfl ?_
  refine o_mv rfl rfl ?_
  refine o_unguard 48 rfl rfl ?_
  refine o_p (p_eq rfl rfl) ?_
  refine o_pt rfl rfl rfl ?_
  exact o_sub (sr (Sub.skip rfl (Sub.skip rfl (Sub.skip rfl (Sub.skip rfl (Sub.refl _)))))) hk
 ·intro hb24 hk
  refine o_guard_no rfl 48 rfl rfl rfl rfl rfl ?_
  refine o_guard_no rfl 48 rfl rfl rfl rfl rfl ?_
  refine o_pf rfl rfl rfl ?_
  exact o_sub (sr (Sub.skip rfl (Sub.skip rfl (Sub.skip rfl (Sub.skip rfl (Sub.refl _)))))) hk
 refine o_mv rfl rfl ?_
 refine o_and (p := 55) 3 ((Tab.has (Tab.putR (Tab.putR (List.replicate 3 (⟨false, ByteArray.empty, 0⟩ : DSlot)) (ByteArray.mk #[97]) (5 : Int)) (ByteArray.mk #[98]) (6 : Int)) (ByteArray.mk #[98])) == 6) ?_ ?_ ?_
 ·intro hb25 hk
  simp only [Bool.and_eq_true, beq_iff_eq] at hb25
  refine o_unguard 52 rfl rfl ?_
  refine o_mv rfl rfl ?_
  refine o_unguard 52 rfl rfl ?_
  refine o_p (p_eq rfl rfl) ?_
  refine o_pt rfl rfl rfl ?_
  exact o_sub (sr (Sub.skip rfl (Sub.skip rfl (Sub.skip rfl (Sub.skip rfl (Sub.refl _)))))) hk
 ·intro hb25 hk
  refine o_guard_no rfl 52 rfl rfl rfl rfl rfl ?_
  refine o_guard_no rfl 52 rfl rfl rfl rfl rfl ?_
  refine o_pf rfl rfl rfl ?_
  exact o_sub (sr (Sub.skip rfl (Sub.skip rfl (Sub.skip rfl (Sub.skip rfl (Sub.refl _)))))) hk
 refine o_mv rfl rfl ?_
 refine o_and (p := 59) 3 (decide (1 ≤ (Tab.looked (Tab.putR (Tab.putR (List.replicate 3 (⟨false, ByteArray.empty, 0⟩ : DSlot)) (ByteArray.mk #[97]) (5 : Int)) (ByteArray.mk #[98]) (6 : Int)) (ByteArray.mk #[98])))) ?_ ?_ ?_
 ·intro hb26 hk
  simp only [Bool.and_eq_true, beq_iff_eq] at hb26
  refine o_unguard 56 rfl rfl ?_
  refine o_mv rfl rfl ?_
  refine o_unguard 56 rfl rfl ?_
  refine o_p (p_ge rfl rfl) ?_
  refine o_pt rfl rfl rfl ?_
  exact o_sub (sr (Sub.skip rfl (Sub.skip rfl (Sub.skip rfl (Sub.skip rfl (Sub.refl _)))))) hk
 ·intro hb26 hk
  refine o_guard_no rfl 56 rfl rfl rfl rfl rfl ?_
  refine o_guard_no rfl 56 rfl rfl rfl rfl rfl ?_
  refine o_pf rfl rfl rfl ?_
  exact o_sub (sr (Sub.skip rfl (Sub.skip rfl (Sub.skip rfl (Sub.skip rfl (Sub.refl _)))))) hk
 refine o_mv rfl rfl ?_
 refine o_and (p := 63) 3 ((Tab.keyErr (Tab.putR (Tab.putR (List.replicate 3 (⟨false, ByteArray.empty, 0⟩ : DSlot)) (ByteArray.mk #[97]) (5 : Int)) (ByteArray.mk #[98]) (6 : Int)) (ByteArray.mk #[98])) == 0) ?_ ?_ ?_
 ·intro hb27 hk
  simp only [Bool.and_eq_true, beq_iff_eq, decide_eq_true_eq] at hb27
  refine o_unguard 60 rfl rfl ?_
  refine o_mv rfl rfl ?_
  refine o_unguard 60 rfl rfl ?_
  refine o_p (p_eq rfl rfl) ?_
  refine o_pt rfl rfl rfl ?_
  exact o_sub (sr (Sub.skip rfl (Sub.skip rfl (Sub.skip rfl (Sub.skip rfl (Sub.refl _)))))) hk
 ·intro hb27 hk
  refine o_guard_no rfl 60 rfl rfl rfl rfl rfl ?_
  refine o_guard_no rfl 60 rfl rfl rfl rfl rfl ?_
  refine o_pf rfl rfl rfl ?_
  exact o_sub (sr (Sub.skip rfl (Sub.skip rfl (Sub.skip rfl (Sub.skip rfl (Sub.refl _)))))) hk
 refine o_mv rfl rfl ?_
 refine o_and (p := 67) 3 ((Tab.keyErr (Tab.putR (Tab.putR (List.replicate 3 (⟨false, ByteArray.empty, 0⟩ : DSlot)) (ByteArray.mk #[97]) (5 : Int)) (ByteArray.mk #[98]) (6 : Int)) (ByteArray.mk #[97])) == 0) ?_ ?_ ?_
 ·intro hb28 hk
  simp only [Bool.and_eq_true, beq_iff_eq, decide_eq_true_eq] at hb28
  refine o_unguard 64 rfl rfl ?_
  refine o_mv rfl rfl ?_
  refine o_unguard 64 rfl rfl ?_
  refine o_p (p_eq rfl rfl) ?_
  refine o_pt rfl rfl rfl ?_
  exact o_sub (sr (Sub.skip rfl (Sub.skip rfl (Sub.skip rfl (Sub.skip rfl (Sub.refl _)))))) hk
 ·intro hb28 hk
  refine o_guard_no rfl 64 rfl rfl rfl rfl rfl ?_
  refine o_guard_no rfl 64 rfl rfl rfl rfl rfl ?_
  refine o_pf rfl rfl rfl ?_
  exact o_sub (sr (Sub.skip rfl (Sub.skip rfl (Sub.skip rfl (Sub.skip rfl (Sub.refl _)))))) hk
 refine o_mv rfl rfl ?_
 refine o_and (p := 71) 3 ((Tab.keyErr (Tab.delR (Tab.putR (Tab.putR (List.replicate 3 (⟨false, ByteArray.empty, 0⟩ : DSlot)) (ByteArray.mk #[97]) (5 : Int)) (ByteArray.mk #[98]) (6 : Int)) (ByteArray.mk #[97])) (ByteArray.mk #[97])) == 5) ?_ ?_ ?_
 ·intro hb29 hk
  simp only [Bool.and_eq_true, beq_iff_eq, decide_eq_true_eq] at hb29
  refine o_unguard 68 rfl rfl ?_
  refine o_mv rfl rfl ?_
  refine o_unguard 68 rfl rfl ?_
  refine o_p (p_eq rfl rfl) ?_
  refine o_pt rfl rfl rfl ?_
  exact o_sub (sr (Sub.skip rfl (Sub.skip rfl (Sub.skip rfl (Sub.skip rfl (Sub.refl _)))))) hk
 ·intro hb29 hk
  refine o_guard_no rfl 68 rfl rfl rfl rfl rfl ?_
  refine o_guard_no rfl 68 rfl rfl rfl rfl rfl ?_
  refine o_pf rfl rfl rfl ?_
  exact o_sub (sr (Sub.skip rfl (Sub.skip rfl (Sub.skip rfl (Sub.skip rfl (Sub.refl _)))))) hk
 refine o_mv rfl rfl ?_
 refine o_and (p := 75) 3 ((Tab.sizeErr (Tab.delR (Tab.putR (Tab.putR (List.replicate 3 (⟨false, ByteArray.empty, 0⟩ : DSlot)) (ByteArray.mk #[97]) (5 : Int)) (ByteArray.mk #[98]) (6 : Int)) (ByteArray.mk #[97])) (1 : Int)) == 0) ?_ ?_ ?_
 ·intro hb30 hk
  simp only [Bool.and_eq_true, beq_iff_eq, decide_eq_true_eq] at hb30
  refine o_unguard 72 rfl rfl ?_
  refine o_mv rfl rfl ?_
  refine o_unguard 72 rfl rfl ?_
  refine o_p (p_eq rfl rfl) ?_
  refine o_pt rfl rfl rfl ?_
  exact o_sub (sr (Sub.skip rfl (Sub.skip rfl (Sub.skip rfl (Sub.skip rfl (Sub.refl _)))))) hk
 ·intro hb30 hk
  refine o_guard_no rfl 72 rfl rfl rfl rfl rfl ?_
  refine o_guard_no rfl 72 rfl rfl rfl rfl rfl ?_
  refine o_pf rfl rfl rfl ?_
  exact o_sub (sr (Sub.skip rfl (Sub.skip rfl (Sub.skip rfl (Sub.skip rfl (Sub.refl _)))))) hk
 refine o_mv rfl rfl ?_
 refine o_and (p := 80) 4 (((Tab.sizeR (Tab.delR (Tab.putR (Tab.putR (List.replicate 3 (⟨false, ByteArray.empty, 0⟩ : DSlot)) (ByteArray.mk #[97]) (5 : Int)) (ByteArray.mk #[98]) (6 : Int)) (ByteArray.mk #[97])) (1 : Int)).length : Int) == 1) ?_ ?_ ?_
 ·intro hb31 hk
  simp only [Bool.and_eq_true, beq_iff_eq, decide_eq_true_eq] at hb31
  refine o_unguard 76 rfl rfl ?_
  refine o_mv rfl rfl ?_
  refine o_unguard 76 rfl rfl ?_
  refine o_p (p_len_slice rfl rfl Try.underlying22) ?_
  refine o_unguard 76 rfl rfl ?_
  refine o_p (p_eq rfl rfl) ?_
  refine o_pt rfl rfl rfl ?_
  exact o_sub (sr (Sub.skip rfl (Sub.skip rfl (Sub.skip rfl (Sub.skip rfl (Sub.skip rfl (Sub.refl _))))))) hk
 ·intro hb31 hk
  refine o_guard_no rfl 76 rfl rfl rfl rfl rfl ?_
  refine o_guard_no rfl 76 rfl rfl rfl rfl rfl ?_
  refine o_guard_no rfl 76 rfl rfl rfl rfl rfl ?_
  refine o_pf rfl rfl rfl ?_
  exact o_sub (sr (Sub.skip rfl (Sub.skip rfl (Sub.skip rfl (Sub.skip rfl (Sub.skip rfl (Sub.refl _))))))) hk
 refine o_mv rfl rfl ?_
 refine o_and (p := 87) 6 ((((Tab.sizeR (Tab.delR (Tab.putR (Tab.putR (List.replicate 3 (⟨false, ByteArray.empty, 0⟩ : DSlot)) (ByteArray.mk #[97]) (5 : Int)) (ByteArray.mk #[98]) (6 : Int)) (ByteArray.mk #[97])) (1 : Int))[0]).used == true) && (decide (((Tab.sizeR (Tab.delR (Tab.putR (Tab.putR (List.replicate 3 (⟨false, ByteArray.empty, 0⟩ : DSlot)) (ByteArray.mk #[97]) (5 : Int)) (ByteArray.mk #[98]) (6 : Int)) (ByteArray.mk #[97])) (1 : Int))[0]).key = (ByteArray.mk #[98])) && (((Tab.sizeR (Tab.delR (Tab.putR (Tab.putR (List.replicate 3 (⟨false, ByteArray.empty, 0⟩ : DSlot)) (ByteArray.mk #[97]) (5 : Int)) (ByteArray.mk #[98]) (6 : Int)) (ByteArray.mk #[97])) (1 : Int))[0]).value == 6))) ?_ ?_ ?_
 ·intro hb32 hk
  simp only [Bool.and_eq_true, beq_iff_eq, decide_eq_true_eq] at hb32
  refine o_unguard 81 rfl rfl ?_
  refine o_mv rfl rfl ?_
  refine o_unguard 81 rfl rfl ?_
  refine o_p (p_indexAddr (L := (Tab.sizeR (Tab.delR (Tab.putR (Tab.putR (List.replicate 3 (⟨false, ByteArray.empty, 0⟩ : DSlot)) (ByteArray.mk #[97]) (5 : Int)) (ByteArray.mk #[98]) (6 : Int)) (ByteArray.mk #[97])) (1 : Int))) (T := tSlot) (i := 0) rfl rfl (rd_own (i := 0) rfl) Try.underlying22 sz33 (by first | omega | decide +kernel) (by first | omega | decide +kernel)) ?_
  refine o_unguard 81 rfl rfl ?_
  refine o_p (p_loadEn (i := 0) (T := tSlot) (L := (Tab.sizeR (Tab.delR (Tab.putR (Tab.putR (List.replicate 3 (⟨false, ByteArray.empty, 0⟩ : DSlot)) (ByteArray.mk #[97]) (5 : Int)) (ByteArray.mk #[98]) (6 : Int)) (ByteArray.mk #[97])) (1 : Int))) (vs := [.bool (((Tab.sizeR (Tab.delR (Tab.putR (Tab.putR (List.replicate 3 (⟨false, ByteArray.empty, 0⟩ : DSlot)) (ByteArray.mk #[97]) (5 : Int)) (ByteArray.mk #[98]) (6 : Int)) (ByteArray.mk #[97])) (1 : Int))[0]).used), .string (((Tab.sizeR (Tab.delR (Tab.putR (Tab.putR (List.replicate 3 (⟨false, ByteArray.empty, 0⟩ : DSlot)) (ByteArray.mk #[97]) (5 : Int)) (ByteArray.mk #[98]) (6 : Int)) (ByteArray.mk #[97])) (1 : Int))[0]).key), Vi (((Tab.sizeR (Tab.delR (Tab.putR (Tab.putR (List.replicate 3 (⟨false, ByteArray.empty, 0⟩ : DSlot)) (ByteArray.mk #[97]) (5 : Int)) (ByteArray.mk #[98]) (6 : Int)) (ByteArray.mk #[97])) (1 : Int))[0]).value)]) rfl (rd_own (i := 0) rfl) (by first | assumption | omega | decide +kernel) sh33 rfl) ?_
  refine o_unguard 81 rfl rfl ?_
  refine o_p (p_build (cells := [.bool true, .string (ByteArray.mk #[98]), Vi 6]) fp33 ze33 rfl rfl) ?_
  refine o_unguard 81 rfl rfl ?_
  refine o_p (p_eqStruct (xs := [.bool (((Tab.sizeR (Tab.delR (Tab.putR (Tab.putR (List.replicate 3 (⟨false, ByteArray.empty, 0⟩ : DSlot)) (ByteArray.mk #[97]) (5 : Int)) (ByteArray.mk #[98]) (6 : Int)) (ByteArray.mk #[97])) (1 : Int))[0]).used), .string (((Tab.sizeR (Tab.delR (Tab.putR (Tab.putR (List.replicate 3 (⟨false, ByteArray.empty, 0⟩ : DSlot)) (ByteArray.mk #[97]) (5 : Int)) (ByteArray.mk #[98]) (6 : Int)) (ByteArray.mk #[97])) (1 : Int))[0]).key), Vi (((Tab.sizeR (Tab.delR (Tab.putR (Tab.putR (List.replicate 3 (⟨false, ByteArray.empty, 0⟩ : DSlot)) (ByteArray.mk #[97]) (5 : Int)) (ByteArray.mk #[98]) (6 : Int)) (ByteArray.mk #[97])) (1 : Int))[0]).value)]) (ys := [.bool true, .string (ByteArray.mk #[98]), Vi 6]) (r := ((((Tab.sizeR (Tab.delR (Tab.putR (Tab.putR (List.replicate 3 (⟨false, ByteArray.empty, 0⟩ : DSlot)) (ByteArray.mk #[97]) (5 : Int)) (ByteArray.mk #[98]) (6 : Int)) (ByteArray.mk #[97])) (1 : Int))[0]).used == true) && (decide (((Tab.sizeR (Tab.delR (Tab.putR (Tab.putR (List.replicate 3 (⟨false, ByteArray.empty, 0⟩ : DSlot)) (ByteArray.mk #[97]) (5 : Int)) (ByteArray.mk #[98]) (6 : Int)) (ByteArray.mk #[97])) (1 : Int))[0]).key = (ByteArray.mk #[98])) && (((Tab.sizeR (Tab.delR (Tab.putR (Tab.putR (List.replicate 3 (⟨false, ByteArray.empty, 0⟩ : DSlot)) (ByteArray.mk #[97]) (5 : Int)) (ByteArray.mk #[98]) (6 : Int)) (ByteArray.mk #[97])) (1 : Int))[0]).value == 6)))) rfl rfl eqS33) ?_
  refine o_pt rfl rfl rfl ?_
  exact o_sub (sr (Sub.skip rfl (Sub.skip rfl (Sub.skip rfl (Sub.skip rfl (Sub.skip rfl (Sub.skip rfl (Sub.skip rfl (Sub.refl _))))))))) hk
 ·intro hb32 hk
  refine o_guard_no rfl 81 rfl rfl rfl rfl rfl ?_
  refine o_guard_no rfl 81 rfl rfl rfl rfl rfl ?_
  refine o_guard_no rfl 81 rfl rfl rfl rfl rfl ?_
  refine o_guard_no rfl 81 rfl rfl rfl rfl rfl ?_
  refine o_guard_no rfl 81 rfl rfl rfl rfl rfl ?_
  refine o_pf rfl rfl rfl ?_
  exact o_sub (sr (Sub.skip rfl (Sub.skip rfl (Sub.skip rfl (Sub.skip rfl (Sub.skip rfl (Sub.skip rfl (Sub.skip rfl (Sub.refl _))))))))) hk
 refine o_mv rfl rfl ?_
 refine o_and (p := 91) 3 ((Tab.check []) == 1) ?_ ?_ ?_
 ·intro hb33 hk
  simp only [Bool.and_eq_true, beq_iff_eq, decide_eq_true_eq] at hb33
  refine o_unguard 88 rfl rfl ?_
  refine o_call0 (v := Vi (Tab.check [])) rfl (tcheck_ok [] none 0) hf25 (fun w hw => rd_nil w hw) rfl ?_
  refine o_unguard 88 rfl rfl ?_
  refine o_p (p_eq rfl rfl) ?_
  refine o_pt rfl rfl rfl ?_
  exact o_sub (sr (Sub.skip rfl (Sub.skip rfl (Sub.skip rfl (Sub.skip rfl (Sub.refl _)))))) hk
 ·intro hb33 hk
  refine o_guard_no rfl 88 rfl rfl rfl rfl rfl ?_
  refine o_guard_no rfl 88 rfl rfl rfl rfl rfl ?_
  refine o_pf rfl rfl rfl ?_
  exact o_sub (sr (Sub.skip rfl (Sub.skip rfl (Sub.skip rfl (Sub.skip rfl (Sub.refl _)))))) hk
 refine o_mv rfl rfl ?_
 refine o_and (p := 97) 5 ((Tab.check ([(⟨false, (ByteArray.mk #[97]), 0⟩ : DSlot)])) == 1) ?_ ?_ ?_
 ·intro hb34 hk
  simp only [Bool.and_eq_true, beq_iff_eq, decide_eq_true_eq] at hb34
  refine o_unguard 92 rfl rfl ?_
  refine o_p (p_build (cells := [.bool false, .string (ByteArray.mk #[97]), Vi 0]) fp33 ze33 rfl rfl) ?_
  refine o_unguard 92 rfl rfl ?_
  refine o_buildSlice (m := 1) (T := tSlot) (L := [(⟨false, (ByteArray.mk #[97]), 0⟩ : DSlot)]) (vs := [.agg #[.bool false, .string (ByteArray.mk #[97]), Vi 0]]) rfl rfl rfl rfl Try.underlying22 sz33 (by decide) ze33 rfl (by decide) rfl (fun S35 a36 => ?_)
  refine o_unguard 92 rfl rfl ?_
  refine o_call0 (v := Vi (Tab.check ([(⟨false, (ByteArray.mk #[97]), 0⟩ : DSlot)]))) rfl (tcheck_ok ([(⟨false, (ByteArray.mk #[97]), 0⟩ : DSlot)]) a36 ([(⟨false, (ByteArray.mk #[97]), 0⟩ : DSlot)].length)) hf25 (fun w hw => (rd_own (i := 0) rfl) w hw) rfl ?_
  refine o_unguard 92 rfl rfl ?_
  refine o_p (p_eq rfl rfl) ?_
  refine o_pt rfl rfl rfl ?_
  exact o_sub (sr (Sub.skip rfl (Sub.skip rfl (Sub.skip rfl (Sub.skip rfl (Sub.skip rfl (Sub.skip rfl (Sub.refl _)))))))) (o_drop (lz (lj (lj (lj (lj (lj (lj (ln)))))))) hk)
 ·intro hb34 hk
  refine o_guard_no rfl 92 rfl rfl rfl rfl rfl ?_
  refine o_guard_no rfl 92 rfl rfl rfl rfl rfl ?_
  refine o_guard_no rfl 92 rfl rfl rfl rfl rfl ?_
  refine o_guard_no rfl 92 rfl rfl rfl rfl rfl ?_
  refine o_pf rfl rfl rfl ?_
  exact o_sub (sr (Sub.skip rfl (Sub.skip rfl (Sub.skip rfl (Sub.skip rfl (Sub.skip rfl (Sub.skip rfl (Sub.refl _)))))))) hk
 refine o_as rfl rfl ?_
 refine o_nil (q_then (c_ret ?_))
 have hr0 : ((((((((((((((Tab.putErr (List.replicate 3 (⟨false, ByteArray.empty, 0⟩ : DSlot)) (ByteArray.mk #[97]) (5 : Int)) == 0) && ((Tab.putErr (Tab.putR (List.replicate 3 (⟨false, ByteArray.empty, 0⟩ : DSlot)) (ByteArray.mk #[97]) (5 : Int)) (ByteArray.mk #[98]) (6 : Int)) == 0)) && ((Tab.has (Tab.putR (Tab.putR (List.replicate 3 (⟨false, ByteArray.empty, 0⟩ : DSlot)) (ByteArray.mk #[97]) (5 : Int)) (ByteArray.mk #[98]) (6 : Int)) (ByteArray.mk #[98])) == 6)) && decide (1 ≤ (Tab.looked (Tab.putR (Tab.putR (List.replicate 3 (⟨false, ByteArray.empty, 0⟩ : DSlot)) (ByteArray.mk #[97]) (5 : Int)) (ByteArray.mk #[98]) (6 : Int)) (ByteArray.mk #[98])))) && ((Tab.keyErr (Tab.putR (Tab.putR (List.replicate 3 (⟨false, ByteArray.empty, 0⟩ : DSlot)) (ByteArray.mk #[97]) (5 : Int)) (ByteArray.mk #[98]) (6 : Int)) (ByteArray.mk #[98])) == 0)) && ((Tab.keyErr (Tab.putR (Tab.putR (List.replicate 3 (⟨false, ByteArray.empty, 0⟩ : DSlot)) (ByteArray.mk #[97]) (5 : Int)) (ByteArray.mk #[98]) (6 : Int)) (ByteArray.mk #[97])) == 0)) && ((Tab.keyErr (Tab.delR (Tab.putR (Tab.putR (List.replicate 3 (⟨false, ByteArray.empty, 0⟩ : DSlot)) (ByteArray.mk #[97]) (5 : Int)) (ByteArray.mk #[98]) (6 : Int)) (ByteArray.mk #[97])) (ByteArray.mk #[97])) == 5)) && ((Tab.sizeErr (Tab.delR (Tab.putR (Tab.putR (List.replicate 3 (⟨false, ByteArray.empty, 0⟩ : DSlot)) (ByteArray.mk #[97]) (5 : Int)) (ByteArray.mk #[98]) (6 : Int)) (ByteArray.mk #[97])) (1 : Int)) == 0)) && (((Tab.sizeR (Tab.delR (Tab.putR (Tab.putR (List.replicate 3 (⟨false, ByteArray.empty, 0⟩ : DSlot)) (ByteArray.mk #[97]) (5 : Int)) (ByteArray.mk #[98]) (6 : Int)) (ByteArray.mk #[97])) (1 : Int)).length : Int) == 1)) && ((((Tab.sizeR (Tab.delR (Tab.putR (Tab.putR (List.replicate 3 (⟨false, ByteArray.empty, 0⟩ : DSlot)) (ByteArray.mk #[97]) (5 : Int)) (ByteArray.mk #[98]) (6 : Int)) (ByteArray.mk #[97])) (1 : Int))[0]).used == true) && (decide (((Tab.sizeR (Tab.delR (Tab.putR (Tab.putR (List.replicate 3 (⟨false, ByteArray.empty, 0⟩ : DSlot)) (ByteArray.mk #[97]) (5 : Int)) (ByteArray.mk #[98]) (6 : Int)) (ByteArray.mk #[97])) (1 : Int))[0]).key = (ByteArray.mk #[98])) && (((Tab.sizeR (Tab.delR (Tab.putR (Tab.putR (List.replicate 3 (⟨false, ByteArray.empty, 0⟩ : DSlot)) (ByteArray.mk #[97]) (5 : Int)) (ByteArray.mk #[98]) (6 : Int)) (ByteArray.mk #[97])) (1 : Int))[0]).value == 6)))) && ((Tab.check []) == 1)) && ((Tab.check ([(⟨false, (ByteArray.mk #[97]), 0⟩ : DSlot)])) == 1)) : Bool) = true := by
  first | rfl | decide +kernel
 refine q_end0 (v := .bool (((((((((((((Tab.putErr (List.replicate 3 (⟨false, ByteArray.empty, 0⟩ : DSlot)) (ByteArray.mk #[97]) (5 : Int)) == 0) && ((Tab.putErr (Tab.putR (List.replicate 3 (⟨false, ByteArray.empty, 0⟩ : DSlot)) (ByteArray.mk #[97]) (5 : Int)) (ByteArray.mk #[98]) (6 : Int)) == 0)) && ((Tab.has (Tab.putR (Tab.putR (List.replicate 3 (⟨false, ByteArray.empty, 0⟩ : DSlot)) (ByteArray.mk #[97]) (5 : Int)) (ByteArray.mk #[98]) (6 : Int)) (ByteArray.mk #[98])) == 6)) && decide (1 ≤ (Tab.looked (Tab.putR (Tab.putR (List.replicate 3 (⟨false, ByteArray.empty, 0⟩ : DSlot)) (ByteArray.mk #[97]) (5 : Int)) (ByteArray.mk #[98]) (6 : Int)) (ByteArray.mk #[98])))) && ((Tab.keyErr (Tab.putR (Tab.putR (List.replicate 3 (⟨false, ByteArray.empty, 0⟩ : DSlot)) (ByteArray.mk #[97]) (5 : Int)) (ByteArray.mk #[98]) (6 : Int)) (ByteArray.mk #[98])) == 0)) && ((Tab.keyErr (Tab.putR (Tab.putR (List.replicate 3 (⟨false, ByteArray.empty, 0⟩ : DSlot)) (ByteArray.mk #[97]) (5 : Int)) (ByteArray.mk #[98]) (6 : Int)) (ByteArray.mk #[97])) == 0)) && ((Tab.keyErr (Tab.delR (Tab.putR (Tab.putR (List.replicate 3 (⟨false, ByteArray.empty, 0⟩ : DSlot)) (ByteArray.mk #[97]) (5 : Int)) (ByteArray.mk #[98]) (6 : Int)) (ByteArray.mk #[97])) (ByteArray.mk #[97])) == 5)) && ((Tab.sizeErr (Tab.delR (Tab.putR (Tab.putR (List.replicate 3 (⟨false, ByteArray.empty, 0⟩ : DSlot)) (ByteArray.mk #[97]) (5 : Int)) (ByteArray.mk #[98]) (6 : Int)) (ByteArray.mk #[97])) (1 : Int)) == 0)) && (((Tab.sizeR (Tab.delR (Tab.putR (Tab.putR (List.replicate 3 (⟨false, ByteArray.empty, 0⟩ : DSlot)) (ByteArray.mk #[97]) (5 : Int)) (ByteArray.mk #[98]) (6 : Int)) (ByteArray.mk #[97])) (1 : Int)).length : Int) == 1)) && ((((Tab.sizeR (Tab.delR (Tab.putR (Tab.putR (List.replicate 3 (⟨false, ByteArray.empty, 0⟩ : DSlot)) (ByteArray.mk #[97]) (5 : Int)) (ByteArray.mk #[98]) (6 : Int)) (ByteArray.mk #[97])) (1 : Int))[0]).used == true) && (decide (((Tab.sizeR (Tab.delR (Tab.putR (Tab.putR (List.replicate 3 (⟨false, ByteArray.empty, 0⟩ : DSlot)) (ByteArray.mk #[97]) (5 : Int)) (ByteArray.mk #[98]) (6 : Int)) (ByteArray.mk #[97])) (1 : Int))[0]).key = (ByteArray.mk #[98])) && (((Tab.sizeR (Tab.delR (Tab.putR (Tab.putR (List.replicate 3 (⟨false, ByteArray.empty, 0⟩ : DSlot)) (ByteArray.mk #[97]) (5 : Int)) (ByteArray.mk #[98]) (6 : Int)) (ByteArray.mk #[97])) (1 : Int))[0]).value == 6)))) && ((Tab.check []) == 1)) && ((Tab.check ([(⟨false, (ByteArray.mk #[97]), 0⟩ : DSlot)])) == 1))) (rt1 rfl (r_tmp rfl)) (i := 5) rfl ?_
 exact (by have hcc := congrArg (fun (y0 : Bool) => (.bool y0 : Value)) hr0; exact hcc)
end Go.Proofs.Ythecfjipaepcgaa

/- Hash tables: what Check says; finding, putting, filling. -/
namespace Go.Sx.Tab
/-! ### the probes of a key -/
def P (n : Nat) (key : ByteArray) (m : Nat) : Nat := (place (home key (n : Int)) (n : Int) m).toNat
theorem P_lt {n : Nat} (hn : 1 ≤ n ∧ n ≤ 64) (key : ByteArray) (m : Nat) : P n key m < n := by
  have := place_bd (n := (n : Int)) (by omega) (home_bd key (n := (n : Int)) (by omega)).1 m
  unfold P; omega
theorem P_int {n : Nat} (hn : 1 ≤ n ∧ n ≤ 64) (key : ByteArray) (m : Nat) : place (home key (n : Int)) (n : Int) m = (P n key m : Int) := by
  have := place_bd (n := (n : Int)) (by omega) (home_bd key (n := (n : Int)) (by omega)).1 m
  unfold P; omega
theorem P_eq {n : Nat} (hn : 1 ≤ n ∧ n ≤ 64) (key : ByteArray) (m : Nat) : P n key m = ((home key (n : Int)).toNat + m) % n := by
  have h := home_bd key (n := (n : Int)) (by omega)
  unfold P place
  rw [Int.tmod_eq_emod_of_nonneg (by omega)]
  have e : home key (n : Int) + (m : Int) = (((home key (n : Int)).toNat + m : Nat) : Int) := by omega
  rw [e, ← Int.natCast_emod, Int.toNat_natCast]
theorem mod_inj {h a b n : Nat} (ha : a < n) (hb : b < n) (e : (h + a) % n = (h + b) % n) : a = b := by
  have h1 : (h + a) % n = (h % n + a) % n := by rw [Nat.add_mod, Nat.mod_eq_of_lt ha, Nat.add_mod (h % n), Nat.mod_mod, Nat.mod_eq_of_lt ha]
  have h2 : (h + b) % n = (h % n + b) % n := by rw [Nat.add_mod, Nat.mod_eq_of_lt hb, Nat.add_mod (h % n), Nat.mod_mod, Nat.mod_eq_of_lt hb]
  rw [h1, h2] at e
  have hh : h % n < n := Nat.mod_lt _ (by omega)
  generalize h % n = q at *
  have r1 : (q + a) % n = if q + a < n then q + a else q + a - n := by
    split
    · exact Nat.mod_eq_of_lt (by assumption)
    · rw [Nat.mod_eq_sub_mod (by omega), Nat.mod_eq_of_lt (by omega)]
  have r2 : (q + b) % n = if q + b < n then q + b else q + b - n := by
    split
    · exact Nat.mod_eq_of_lt (by assumption)
    · rw [Nat.mod_eq_sub_mod (by omega), Nat.mod_eq_of_lt (by omega)]
  rw [r1, r2] at e
  split at e <;> split at e <;> omega
theorem P_inj {n : Nat} (hn : 1 ≤ n ∧ n ≤ 64) {key : ByteArray} {a b : Nat} (ha : a < n) (hb : b < n) (e : P n key a = P n key b) : a = b := by
  rw [P_eq hn, P_eq hn] at e; exact mod_inj ha hb e
abbrev U (t : List DSlot) (i : Nat) : Bool := (t.getD i default).used
abbrev K (t : List DSlot) (i : Nat) : ByteArray := (t.getD i default).key
theorem slot_P {t : List DSlot} {key : ByteArray} (k : Nat) : slot t (home key (t.length : Int)) k = t.getD (P t.length key k) default := rfl
structure Ok (t : List DSlot) : Prop where
  len : 1 ≤ t.length ∧ t.length ≤ 64
  one : ∀ i, i < t.length → one (t.getD i default) = 0
  uniq : ∀ i j, i < t.length → j < t.length → U t i = true → U t j = true → K t i = K t j → i = j
  reach : ∀ i, i < t.length → U t i = true → ∃ m, m < t.length ∧ P t.length (K t i) m = i ∧ ∀ m', m' < m → U t (P t.length (K t i) m') = true
/-! ### Check -/
theorem go_iff : ∀ {l : List DSlot} {pre : List ByteArray}, pre.Nodup → (checkGo pre l = 0 ↔ (∀ s ∈ l, Tab.one s = 0) ∧ (pre ++ keys l).Nodup)
  | [], pre, hp => by simp [checkGo, keys, hp]
  | s :: l, pre, hp => by
    rw [checkGo]
    by_cases e : Tab.one s ≠ 0
    · rw [if_pos e]; exact ⟨fun h => absurd h e, fun h => absurd (h.1 s (by simp)) e⟩
    · rw [if_neg e]
      have e' : Tab.one s = 0 := by simpa using e
      by_cases u : s.used = false
      · rw [if_pos u, go_iff hp, show keys (s :: l) = keys l by simp [keys, u]]
        exact ⟨fun h => ⟨fun x hx => by rcases List.mem_cons.1 hx with q | q; rw [q]; exact e'; exact h.1 x q, h.2⟩, fun h => ⟨fun x hx => h.1 x (by simp [hx]), h.2⟩⟩
      · have u' : s.used = true := by simpa using u
        rw [if_neg u, show keys (s :: l) = s.key :: keys l by simp [keys, u']]
        by_cases m : s.key ∈ pre
        · rw [if_pos m]
          constructor
          · intro h; cases h
          · intro h; exact absurd (List.nodup_append.1 h.2).2.2 (by intro q; exact q _ m _ (by simp) rfl)
        · rw [if_neg m, go_iff (List.nodup_append.2 ⟨hp, by simp, fun a ha b hb e => by rw [List.mem_singleton] at hb; exact m (by rw [← hb, ← e]; exact ha)⟩), List.append_assoc]
          exact ⟨fun h => ⟨fun x hx => by rcases List.mem_cons.1 hx with q | q; rw [q]; exact e'; exact h.1 x q, h.2⟩, fun h => ⟨fun x hx => h.1 x (by simp [hx]), h.2⟩⟩
theorem uniq_iff {t : List DSlot} : (keys t).Nodup ↔ ∀ i j, i < t.length → j < t.length → U t i = true → U t j = true → K t i = K t j → i = j := by
  unfold keys List.Nodup
  rw [List.pairwise_map, List.pairwise_filter, List.pairwise_iff_getElem]
  constructor
  · intro h i j hi hj ui uj e
    unfold U at ui uj; unfold K at e
    rw [getd_eq hi] at ui e; rw [getd_eq hj] at uj e
    rcases Nat.lt_trichotomy i j with q | q | q
    · exact absurd e (h i j hi hj q ui uj)
    · exact q
    · exact absurd e.symm (h j i hj hi q uj ui)
  · intro h i j hi hj hij ui uj e
    have := h i j hi hj (by unfold U; rw [getd_eq hi]; exact ui) (by unfold U; rw [getd_eq hj]; exact uj) (by unfold K; rw [getd_eq hi, getd_eq hj]; exact e)
    omega
theorem reach_iff {t : List DSlot} (hn : 1 ≤ t.length ∧ t.length ≤ 64) {i : Nat} (hi : i < t.length) (key : ByteArray) : ∀ f k, f + k = t.length → (reachGo t (home key (t.length : Int)) (i : Int) f k = true ↔ ∃ m, k ≤ m ∧ m < t.length ∧ P t.length key m = i ∧ ∀ m', k ≤ m' → m' < m → U t (P t.length key m') = true)
  | 0, k, hk => by
    unfold reachGo
    constructor
    · intro h; cases h
    · rintro ⟨m, h1, h2, _⟩; omega
  | f + 1, k, hk => by
    rw [reachGo, P_int hn, slot_P]
    by_cases e : (P t.length key k : Int) = (i : Int)
    · rw [if_pos e]
      exact ⟨fun _ => ⟨k, Nat.le_refl _, by omega, by omega, fun m' h1 h2 => by omega⟩, fun _ => rfl⟩
    · rw [if_neg e]
      by_cases u : (t.getD (P t.length key k) default).used = false
      · rw [if_pos u]
        constructor
        · intro h; cases h
        · rintro ⟨m, h1, h2, h3, h4⟩
          rcases Nat.eq_or_lt_of_le h1 with q | q
          · subst q; omega
          · have := h4 k (Nat.le_refl _) q; unfold U at this; rw [u] at this; cases this
      · rw [if_neg u, reach_iff hn hi key f (k + 1) (by omega)]
        constructor
        · rintro ⟨m, h1, h2, h3, h4⟩
          refine ⟨m, by omega, h2, h3, fun m' a b => ?_⟩
          rcases Nat.eq_or_lt_of_le a with q | q
          · subst q; unfold U; simpa using u
          · exact h4 m' q b
        · rintro ⟨m, h1, h2, h3, h4⟩
          rcases Nat.eq_or_lt_of_le h1 with q | q
          · subst q; omega
          · exact ⟨m, q, h2, h3, fun m' a b => h4 m' (by omega) b⟩
theorem all_iff {t : List DSlot} : ∀ f k, f + k = t.length → (allGo t f k = 0 ↔ ∀ i, k ≤ i → i < t.length → U t i = true → reached t (i : Int) = true)
  | 0, k, hk => by
    unfold allGo
    exact ⟨fun _ i h1 h2 => by omega, fun _ => rfl⟩
  | f + 1, k, hk => by
    rw [allGo]
    by_cases e : (t.getD k default).used = true ∧ reached t (k : Int) = false
    · rw [if_pos e]
      constructor
      · intro h; cases h
      · intro h; have := h k (Nat.le_refl _) (by omega) e.1; rw [e.2] at this; cases this
    · rw [if_neg e, all_iff f (k + 1) (by omega)]
      constructor
      · intro h i h1 h2 h3
        rcases Nat.eq_or_lt_of_le h1 with q | q
        · subst q; rcases Bool.eq_false_or_eq_true (reached t (k : Int)) with r | r
          · exact r
          · exact absurd ⟨h3, r⟩ e
        · exact h i q h2 h3
      · intro h i h1 h2 h3; exact h i (by omega) h2 h3
theorem check_ok {t : List DSlot} : check t = 0 ↔ Ok t := by
  unfold check
  by_cases h1 : t.length = 0
  · rw [if_pos h1]
    exact ⟨fun h => (by cases h), fun h => by have := h.len; omega⟩
  · rw [if_neg h1]
    by_cases h2 : 64 < (t.length : Int)
    · rw [if_pos h2]; exact ⟨fun h => (by cases h), fun h => by have := h.len; omega⟩
    · rw [if_neg h2]
      have hn : 1 ≤ t.length ∧ t.length ≤ 64 := by omega
      have hg := go_iff (l := t) (pre := []) List.nodup_nil
      rw [List.nil_append, uniq_iff] at hg
      have ho : (∀ s ∈ t, Tab.one s = 0) ↔ ∀ i, i < t.length → Tab.one (t.getD i default) = 0 := by
        constructor
        · intro h i hi; rw [getd_eq hi]; exact h _ (List.getElem_mem hi)
        · intro h s hs; obtain ⟨i, hi, rfl⟩ := List.getElem_of_mem hs; have := h i hi; rw [getd_eq hi] at this; exact this
      have hr : ∀ i, i < t.length → (reached t (i : Int) = true ↔ ∃ m, m < t.length ∧ P t.length (K t i) m = i ∧ ∀ m', m' < m → U t (P t.length (K t i) m') = true) := fun i hi => by
        unfold reached
        rw [Int.toNat_natCast, reach_iff hn hi _ t.length 0 (by omega)]
        constructor
        · rintro ⟨m, _, a, b, c⟩; exact ⟨m, a, b, fun m' h => c m' (Nat.zero_le _) h⟩
        · rintro ⟨m, a, b, c⟩; exact ⟨m, Nat.zero_le _, a, b, fun m' _ h => c m' h⟩
      by_cases h3 : checkGo [] t ≠ 0
      · rw [if_pos h3]
        exact ⟨fun h => absurd h h3, fun h => hg.2 ⟨ho.2 h.one, h.uniq⟩⟩
      · rw [if_neg h3, all_iff t.length 0 (by omega)]
        have h4 := hg.1 (by simpa using h3)
        exact ⟨fun h => ⟨hn, ho.1 h4.1, h4.2, fun i hi u => (hr i hi).1 (h i (Nat.zero_le _) hi u)⟩, fun h i _ hi u => (hr i hi).2 (h.reach i hi u)⟩
/-! ### finding -/
section
variable {t : List DSlot} {key : ByteArray}
theorem find_miss (hno : ∀ i, i < t.length → U t i = true → K t i ≠ key) (hn : 1 ≤ t.length ∧ t.length ≤ 64) : ∀ f k, findGo t key (home key (t.length : Int)) f k = (-1, 0)
  | 0, _ => rfl
  | f + 1, k => by
    rw [findGo, slot_P]
    split
    · rfl
    · rename_i u
      rw [if_neg (hno _ (P_lt hn key k) (by unfold U; simpa using u)), find_miss hno hn f (k + 1)]
theorem find_hit (hn : 1 ≤ t.length ∧ t.length ≤ 64) {m : Nat} (hb : ∀ m', m' < m → U t (P t.length key m') = true ∧ K t (P t.length key m') ≠ key) (hu : U t (P t.length key m) = true) (he : K t (P t.length key m) = key) : ∀ f k, k ≤ m → m < f + k → findGo t key (home key (t.length : Int)) f k = ((P t.length key m : Int), (m : Int) + 1)
  | 0, k, h1, h2 => by omega
  | f + 1, k, h1, h2 => by
    rw [findGo, slot_P, P_int hn]
    rcases Nat.eq_or_lt_of_le h1 with q | q
    · subst q; rw [if_neg (by unfold U at hu; rw [hu]; decide), if_pos he]
    · have := hb k q
      rw [if_neg (by have h9 := this.1; unfold U at h9; rw [h9]; decide), if_neg this.2]
      exact find_hit hn hb hu he f (k + 1) q (by omega)
theorem put_miss (hno : ∀ i, i < t.length → U t i = true → K t i ≠ key) (hn : 1 ≤ t.length ∧ t.length ≤ 64) : ∀ f k, f + k = t.length → (putGo t key (home key (t.length : Int)) f k = -1 ∧ ∀ m, k ≤ m → m < t.length → U t (P t.length key m) = true) ∨ ∃ m, k ≤ m ∧ m < t.length ∧ putGo t key (home key (t.length : Int)) f k = (P t.length key m : Int) ∧ U t (P t.length key m) = false ∧ ∀ m', k ≤ m' → m' < m → U t (P t.length key m') = true
  | 0, k, hk => .inl ⟨rfl, fun m h1 h2 => by omega⟩
  | f + 1, k, hk => by
    rw [putGo, slot_P, P_int hn]
    by_cases u : (t.getD (P t.length key k) default).used = false
    · rw [if_pos (.inl u)]
      exact .inr ⟨k, Nat.le_refl _, by omega, rfl, u, fun m' h1 h2 => by omega⟩
    · have u' : U t (P t.length key k) = true := by unfold U; simpa using u
      rw [if_neg (fun h => h.elim u (hno _ (P_lt hn key k) u'))]
      rcases put_miss hno hn f (k + 1) (by omega) with ⟨h1, h2⟩ | ⟨m, h1, h2, h3, h4, h5⟩
      · refine .inl ⟨h1, fun m a b => ?_⟩
        rcases Nat.eq_or_lt_of_le a with q | q
        · rw [← q]; exact u'
        · exact h2 m q b
      · refine .inr ⟨m, by omega, h2, h3, h4, fun m' a b => ?_⟩
        rcases Nat.eq_or_lt_of_le a with q | q
        · rw [← q]; exact u'
        · exact h5 m' q b
theorem put_hit (hn : 1 ≤ t.length ∧ t.length ≤ 64) {m : Nat} (hb : ∀ m', m' < m → U t (P t.length key m') = true ∧ K t (P t.length key m') ≠ key) (he : K t (P t.length key m) = key) : ∀ f k, k ≤ m → m < f + k → putGo t key (home key (t.length : Int)) f k = (P t.length key m : Int)
  | 0, k, h1, h2 => by omega
  | f + 1, k, h1, h2 => by
    rw [putGo, slot_P, P_int hn]
    rcases Nat.eq_or_lt_of_le h1 with q | q
    · subst q; rw [if_pos (.inr he)]
    · have := hb k q
      rw [if_neg (fun h => h.elim (by have h9 := this.1; unfold U at h9; rw [h9]; decide) this.2)]
      exact put_hit hn hb he f (k + 1) q (by omega)
/-- where a key stands -/
theorem Ok.at_ (h : Ok t) {i : Nat} (hi : i < t.length) (hu : U t i = true) (he : K t i = key) : ∃ m, m < t.length ∧ P t.length key m = i ∧ find t key = ((i : Int), (m : Int) + 1) ∧ putAt t key = (i : Int) := by
  obtain ⟨m, h1, h2, h3⟩ := h.reach i hi hu
  rw [he] at h2 h3
  have hb : ∀ m', m' < m → U t (P t.length key m') = true ∧ K t (P t.length key m') ≠ key := fun m' hm => by
    refine ⟨h3 m' hm, fun e => ?_⟩
    have := h.uniq _ i (P_lt h.len key m') hi (h3 m' hm) hu (e.trans he.symm)
    rw [← h2] at this
    have := P_inj h.len (by omega) h1 this; omega
  refine ⟨m, h1, h2, ?_, ?_⟩
  · rw [← h2]; exact find_hit h.len hb (by rw [h2]; exact hu) (by rw [h2]; exact he) _ _ (Nat.zero_le _) (by omega)
  · rw [← h2]; exact put_hit h.len hb (by rw [h2]; exact he) _ _ (Nat.zero_le _) (by omega)
/-- what a key has -/
def C (t : List DSlot) (key : ByteArray) (v : Int) : Prop := ∃ s ∈ t, s.used = true ∧ s.key = key ∧ s.value = v
theorem C_at {v : Int} : C t key v ↔ ∃ i, i < t.length ∧ U t i = true ∧ K t i = key ∧ (t.getD i default).value = v := by
  constructor
  · rintro ⟨s, hs, h1, h2, h3⟩
    obtain ⟨i, hi, rfl⟩ := List.getElem_of_mem hs
    exact ⟨i, hi, by unfold U; rw [getd_eq hi]; exact h1, by unfold K; rw [getd_eq hi]; exact h2, by rw [getd_eq hi]; exact h3⟩
  · rintro ⟨i, hi, h1, h2, h3⟩
    unfold U at h1; unfold K at h2
    rw [getd_eq hi] at h1 h2 h3
    exact ⟨_, List.getElem_mem hi, h1, h2, h3⟩
theorem absent_of (h : ¬ ∃ v, C t key v) : ∀ i, i < t.length → U t i = true → K t i ≠ key := fun i hi u e => h ⟨_, C_at.2 ⟨i, hi, u, e, rfl⟩⟩
theorem get_yes (h : Ok t) (hk : key.size ≤ 40) {v : Int} (hc : C t key v) : keyErr t key = 0 ∧ has t key = v := by
  obtain ⟨i, hi, h1, h2, h3⟩ := C_at.1 hc
  obtain ⟨m, m1, m2, m3, _⟩ := h.at_ hi h1 h2
  have := g4 (t := t) (key := key) (check_ok.2 h) (by omega) (by rw [m3]; exact Int.natCast_nonneg i)
  refine ⟨this.2.2, ?_⟩
  rw [this.1, m3]; exact h3
theorem get_no (h : Ok t) (hk : key.size ≤ 40) (hc : ¬ ∃ v, C t key v) : keyErr t key = 5 ∧ has t key = 0 := by
  have hf : find t key = (-1, 0) := find_miss (absent_of hc) h.len _ _
  have := g3 (t := t) (key := key) (check_ok.2 h) (by omega) (by rw [hf]; decide)
  exact ⟨this.2.2, this.1⟩
end
end Go.Sx.Tab

/- Hash tables: putting a key, another size. -/
namespace Go.Sx.Tab
section
variable {t : List DSlot} {key : ByteArray} {v : Int}
structure PF (t : List DSlot) (key : ByteArray) (p : Nat) : Prop where
  lt : p < t.length
  old : U t p = true → K t p = key
  one : ∀ i, i < t.length → U t i = true → K t i = key → i = p
  way : ∃ m, m < t.length ∧ P t.length key m = p ∧ ∀ m', m' < m → U t (P t.length key m') = true
theorem put_facts (h : Ok t) (hp : 0 ≤ putAt t key) : ∃ p : Nat, putAt t key = (p : Int) ∧ PF t key p := by
  by_cases hc : ∃ v, C t key v
  · obtain ⟨v, hc⟩ := hc
    obtain ⟨i, hi, h1, h2, h3⟩ := C_at.1 hc
    obtain ⟨m, m1, m2, _, m3⟩ := h.at_ hi h1 h2
    refine ⟨i, m3, hi, fun _ => h2, fun j hj a b => h.uniq j i hj hi a h1 (b.trans h2.symm), ?_⟩
    obtain ⟨m', a, b, c⟩ := h.reach i hi h1
    rw [h2] at b c; exact ⟨m', a, b, c⟩
  · have hno := absent_of hc
    rcases put_miss hno h.len t.length 0 (by omega) with ⟨h1, _⟩ | ⟨m, _, h2, h3, h4, h5⟩
    · have e : putAt t key = -1 := h1
      omega
    · refine ⟨P t.length key m, h3, P_lt h.len key m, fun q => ?_, fun i hi a b => absurd b (hno i hi a), ⟨m, h2, rfl, fun m' hm => h5 m' (Nat.zero_le _) hm⟩⟩
      rw [h4] at q; cases q
theorem put_full (h : Ok t) (hp : putAt t key < 0) : (¬ ∃ v, C t key v) ∧ ∀ i, i < t.length → U t (P t.length key i) = true := by
  have hc : ¬ ∃ v, C t key v := by
    rintro ⟨v, hc⟩
    obtain ⟨i, hi, h1, h2, h3⟩ := C_at.1 hc
    obtain ⟨m, m1, m2, _, m3⟩ := h.at_ hi h1 h2
    omega
  refine ⟨hc, ?_⟩
  rcases put_miss (absent_of hc) h.len t.length 0 (by omega) with ⟨_, h1⟩ | ⟨m, _, h2, h3, h4, h5⟩
  · exact fun i hi => h1 i (Nat.zero_le _) hi
  · have e : putAt t key = (P t.length key m : Int) := h3
    omega
theorem put_eq {p : Nat} (hp : putAt t key = (p : Int)) : put t key v = t.set p ⟨true, key, v⟩ := by
  unfold put; rw [if_neg (by omega), hp, Int.toNat_natCast]
theorem U_set {p j : Nat} (hj : j < t.length) : U (t.set p ⟨true, key, v⟩) j = if p = j then true else U t j := by
  unfold U; rw [getd_set hj]; split <;> rfl
theorem K_set {p j : Nat} (hj : j < t.length) : K (t.set p ⟨true, key, v⟩) j = if p = j then key else K t j := by
  unfold K; rw [getd_set hj]; split <;> rfl
theorem one_new (hk : key.size ≤ 40) (hv : okVal v = true) : Tab.one (⟨true, key, v⟩ : DSlot) = 0 := by
  unfold Tab.one; rw [if_neg (by rintro ⟨a, _⟩; cases a), if_neg]
  rintro (a | a)
  · have : 40 < (key.size : Int) := a
    omega
  · have : okVal v = false := a
    rw [hv] at this; cases this
theorem PF.ok {p : Nat} (f : PF t key p) (h : Ok t) (hk : key.size ≤ 40) (hv : okVal v = true) : Ok (t.set p ⟨true, key, v⟩) := by
  have hl : (t.set p (⟨true, key, v⟩ : DSlot)).length = t.length := List.length_set
  refine ⟨by rw [hl]; exact h.len, fun i hi => ?_, fun i j hi hj ui uj e => ?_, fun i hi ui => ?_⟩
  · rw [hl] at hi
    rw [getd_set hi]
    split
    · exact one_new hk hv
    · exact h.one i hi
  · rw [hl] at hi hj
    rw [U_set hi] at ui; rw [U_set hj] at uj; rw [K_set hi, K_set hj] at e
    by_cases a : p = i
    · by_cases b : p = j
      · omega
      · rw [if_pos a, if_neg b] at e; rw [if_neg b] at uj
        have := f.one j hj uj e.symm; omega
    · by_cases b : p = j
      · rw [if_neg a, if_pos b] at e; rw [if_neg a] at ui
        have := f.one i hi ui e; omega
      · rw [if_neg a, if_neg b] at e; rw [if_neg a] at ui; rw [if_neg b] at uj
        exact h.uniq i j hi hj ui uj e
  · rw [hl] at hi
    rw [hl]
    rw [U_set hi] at ui; rw [K_set hi]
    have up : ∀ k' m', U t (P t.length k' m') = true → U (t.set p (⟨true, key, v⟩ : DSlot)) (P t.length k' m') = true := fun k' m' q => by
      rw [U_set (P_lt h.len k' m')]; split; rfl; exact q
    by_cases a : p = i
    · rw [if_pos a]
      obtain ⟨m, m1, m2, m3⟩ := f.way
      exact ⟨m, m1, m2.trans a, fun m' q => up _ _ (m3 m' q)⟩
    · rw [if_neg a] at ui ⊢
      obtain ⟨m, m1, m2, m3⟩ := h.reach i hi ui
      exact ⟨m, m1, m2, fun m' q => up _ _ (m3 m' q)⟩
theorem PF.c {p : Nat} (f : PF t key p) (k' : ByteArray) (v' : Int) : C (t.set p ⟨true, key, v⟩) k' v' ↔ if k' = key then v' = v else C t k' v' := by
  have hl : (t.set p (⟨true, key, v⟩ : DSlot)).length = t.length := List.length_set
  rw [C_at, hl]
  constructor
  · rintro ⟨i, hi, h1, h2, h3⟩
    rw [U_set hi] at h1; rw [K_set hi] at h2; rw [getd_set hi] at h3
    by_cases a : p = i
    · rw [if_pos a] at h2 h3; rw [if_pos h2.symm]; exact h3.symm
    · rw [if_neg a] at h1 h2 h3
      by_cases b : k' = key
      · have := f.one i hi h1 (h2.trans b); omega
      · rw [if_neg b]; exact C_at.2 ⟨i, hi, h1, h2, h3⟩
  · by_cases b : k' = key
    · rw [if_pos b]; intro e
      exact ⟨p, f.lt, by rw [U_set f.lt, if_pos rfl], by rw [K_set f.lt, if_pos rfl, b], by rw [getd_set f.lt, if_pos rfl, e]⟩
    · rw [if_neg b]; intro e
      obtain ⟨i, hi, h1, h2, h3⟩ := C_at.1 e
      have a : ¬ p = i := fun a => by subst a; exact b (h2.symm.trans (f.old h1))
      exact ⟨i, hi, by rw [U_set hi, if_neg a]; exact h1, by rw [K_set hi, if_neg a]; exact h2, by rw [getd_set hi, if_neg a]; exact h3⟩
theorem count_new {p : Nat} (hp : p < t.length) (hu : U t p = false) : (t.set p (⟨true, key, v⟩ : DSlot)).countP (·.used) = t.countP (·.used) + 1 := by
  have e : t[p].used = false := by unfold U at hu; rw [getd_eq hp] at hu; exact hu
  rw [List.countP_set hp]
  simp [e]
end
theorem one_val {s : DSlot} (h : Tab.one s = 0) : okVal s.value = true := by
  unfold Tab.one at h
  split at h
  · cases h
  · split at h
    · cases h
    · rename_i h2; rcases Bool.eq_false_or_eq_true (okVal s.value) with q | q
      · exact q
      · exact absurd (.inr q) h2
theorem C_cons {s : DSlot} {l : List DSlot} {k : ByteArray} {v : Int} : C (s :: l) k v ↔ (s.used = true ∧ s.key = k ∧ s.value = v) ∨ C l k v := by
  unfold C; simp only [List.mem_cons]
  constructor
  · rintro ⟨x, rfl | hx, h⟩
    · exact .inl h
    · exact .inr ⟨x, hx, h⟩
  · rintro (h | ⟨x, hx, h⟩)
    · exact ⟨s, .inl rfl, h⟩
    · exact ⟨x, .inr hx, h⟩
theorem keys_mem {l : List DSlot} {k : ByteArray} : k ∈ keys l ↔ ∃ v, C l k v := by
  unfold keys C
  simp only [List.mem_map, List.mem_filter]
  exact ⟨fun ⟨s, ⟨a, b⟩, c⟩ => ⟨s.value, s, a, b, c, rfl⟩, fun ⟨v, s, a, b, c, d⟩ => ⟨s, ⟨a, b⟩, c⟩⟩
theorem fill_ok : ∀ {l out : List DSlot}, Ok out → (∀ s ∈ l, Tab.one s = 0) → (keys l).Nodup → (∀ k, (∃ v, C l k v) → ¬ ∃ v, C out k v) → (fill out l).2 = true → Ok (fill out l).1 ∧ (fill out l).1.length = out.length ∧ (∀ k v, C (fill out l).1 k v ↔ C out k v ∨ C l k v) ∧ (fill out l).1.countP (·.used) = out.countP (·.used) + l.countP (·.used)
  | [], out, h, _, _, _, _ => ⟨h, rfl, fun k v => ⟨.inl, fun q => q.elim id (fun ⟨s, hs, _⟩ => by cases hs)⟩, by simp [fill]⟩
  | s :: l, out, h, ho, hn, hd, ht => by
    rw [fill] at ht ⊢
    by_cases u : s.used = true
    · rw [if_pos u] at ht ⊢
      by_cases hp : putAt out s.key < 0
      · rw [if_pos hp] at ht; cases ht
      · rw [if_neg hp] at ht ⊢
        obtain ⟨p, hp1, f⟩ := put_facts (key := s.key) h (by omega)
        have h1 := ho s (by simp)
        have habs : ¬ ∃ v, C out s.key v := hd _ ⟨_, C_cons.2 (.inl ⟨u, rfl, rfl⟩)⟩
        have hup : U out p = false := by
          rcases Bool.eq_false_or_eq_true (U out p) with q | q
          · exact absurd (f.old q) (absent_of habs p f.lt q)
          · exact q
        rw [show keys (s :: l) = s.key :: keys l by simp [keys, u], List.nodup_cons] at hn
        rw [put_eq hp1] at ht ⊢
        have hC : ∀ k v, C (out.set p ⟨true, s.key, s.value⟩) k v ↔ if k = s.key then v = s.value else C out k v := f.c
        obtain ⟨g1, g2, g3, g4⟩ := fill_ok (l := l) (f.ok (v := s.value) h (one_key h1) (one_val h1)) (fun x hx => ho x (by simp [hx])) hn.2 (fun k hk => by
          rintro ⟨v, hv⟩
          rw [hC] at hv
          by_cases e : k = s.key
          · exact hn.1 (keys_mem.2 (e ▸ hk))
          · rw [if_neg e] at hv
            obtain ⟨v', hv'⟩ := hk
            exact hd k ⟨v', C_cons.2 (.inr hv')⟩ ⟨v, hv⟩) ht
        refine ⟨g1, by rw [g2, List.length_set], fun k v => ?_, ?_⟩
        · rw [g3, hC, C_cons]
          by_cases e : k = s.key
          · rw [if_pos e]
            constructor
            · rintro (q | q)
              · exact .inr (.inl ⟨u, e.symm, q.symm⟩)
              · exact .inr (.inr q)
            · rintro (q | q | q)
              · exact absurd ⟨v, e ▸ q⟩ habs
              · exact .inl q.2.2.symm
              · exact .inr q
          · rw [if_neg e]
            constructor
            · rintro (q | q)
              · exact .inl q
              · exact .inr (.inr q)
            · rintro (q | q | q)
              · exact .inl q
              · exact absurd q.2.1.symm e
              · exact .inr q
        · rw [g4, count_new f.lt hup, List.countP_cons_of_pos (by exact u)]; omega
    · have u' : s.used = false := by simpa using u
      rw [if_neg u] at ht ⊢
      rw [show keys (s :: l) = keys l by simp [keys, u']] at hn
      obtain ⟨g1, g2, g3, g4⟩ := fill_ok (l := l) h (fun x hx => ho x (by simp [hx])) hn (fun k ⟨v, hv⟩ => hd k ⟨v, C_cons.2 (.inr hv)⟩) ht
      refine ⟨g1, g2, fun k v => ?_, ?_⟩
      · rw [g3, C_cons]
        exact ⟨fun q => q.elim .inl (fun q => .inr (.inr q)), fun q => q.elim .inl (fun q => q.elim (fun q => by rw [u'] at q; cases q.1) .inr)⟩
      · rw [g4, List.countP_cons_of_neg (by simpa using u')]
theorem getd_empty {n : Int} (i : Nat) : (empty n).getD i default = none_ := by
  unfold empty
  rw [List.getD_eq_getElem?_getD, List.getElem?_replicate]
  split <;> rfl
theorem ok_empty {n : Int} (h : 1 ≤ n ∧ n ≤ 64) : Ok (empty n) := by
  have hl : (empty n).length = n.toNat := List.length_replicate
  refine ⟨by omega, fun i _ => by rw [getd_empty]; decide, fun i j _ _ ui => ?_, fun i _ ui => ?_⟩
  · unfold U at ui; rw [getd_empty] at ui; cases ui
  · unfold U at ui; rw [getd_empty] at ui; cases ui
theorem C_empty {n : Int} {k : ByteArray} {v : Int} : ¬ C (empty n) k v := by
  rintro ⟨s, hs, hu, _⟩
  rw [List.eq_of_mem_replicate hs] at hu; cases hu
structure RL (t : List DSlot) (n : Int) (key : ByteArray) : Prop where
  len : ((sizeR t n).length : Int) = n
  ck : check (sizeR t n) = 0
  ke : keyErr t key = keyErr (sizeR t n) key
  hs : has t key = has (sizeR t n) key
  ct : t.countP (·.used) = (sizeR t n).countP (·.used)
theorem size_ok {t : List DSlot} {n : Int} (h : sizeErr t n = 0) : Ok t ∧ (1 ≤ n ∧ n ≤ 64) ∧ (fill (empty n) t).2 = true ∧ sizeR t n = (fill (empty n) t).1 := by
  have e := h
  unfold sizeErr at h
  split at h
  · rename_i h1; exact absurd h h1
  · rename_i h1
    split at h
    · cases h
    · rename_i h2
      split at h
      · rename_i h3; exact ⟨check_ok.1 (by simpa using h1), by omega, h3, if_pos e⟩
      · cases h
theorem get_same {t g : List DSlot} (h : Ok t) (hg : Ok g) (key : ByteArray) (hc : ∀ v, C g key v ↔ C t key v) : keyErr t key = keyErr g key ∧ has t key = has g key := by
  by_cases hk : key.size ≤ 40
  · by_cases hv : ∃ v, C t key v
    · obtain ⟨v, hv⟩ := hv
      have a := get_yes h hk hv
      have b := get_yes hg hk ((hc v).2 hv)
      exact ⟨a.1.trans b.1.symm, a.2.trans b.2.symm⟩
    · have a := get_no h hk hv
      have b := get_no hg hk (fun ⟨v, q⟩ => hv ⟨v, (hc v).1 q⟩)
      exact ⟨a.1.trans b.1.symm, a.2.trans b.2.symm⟩
  · have a := g2 (t := t) (key := key) (check_ok.2 h) (by omega)
    have b := g2 (t := g) (key := key) (check_ok.2 hg) (by omega)
    exact ⟨a.2.2.trans b.2.2.symm, a.1.trans b.1.symm⟩
theorem keys_nodup {t : List DSlot} (h : Ok t) : (keys t).Nodup := uniq_iff.2 h.uniq
theorem mem_one {t : List DSlot} (h : Ok t) : ∀ s ∈ t, Tab.one s = 0 := fun s hs => by
  obtain ⟨i, hi, rfl⟩ := List.getElem_of_mem hs; have := h.one i hi; rw [getd_eq hi] at this; exact this
theorem resize_law {t : List DSlot} {n : Int} (h : sizeErr t n = 0) (key : ByteArray) : RL t n key := by
  obtain ⟨ho, hn, hf, e⟩ := size_ok h
  obtain ⟨g1, g2, g3, g4⟩ := fill_ok (ok_empty hn) (mem_one ho) (keys_nodup ho) (fun k _ ⟨v, q⟩ => C_empty q) hf
  have hC : ∀ v, C (fill (empty n) t).1 key v ↔ C t key v := fun v => by rw [g3]; exact ⟨fun q => q.elim (fun q => absurd q C_empty) id, .inr⟩
  obtain ⟨a, b⟩ := get_same ho g1 key hC
  have hz : (empty n).countP (·.used) = 0 := by unfold empty; rw [List.countP_replicate]; simp [none_]
  rw [hz, Nat.zero_add] at g4
  refine ⟨?_, ?_, ?_, ?_, ?_⟩ <;> rw [e]
  · rw [g2]; unfold empty; rw [List.length_replicate]; omega
  · exact check_ok.2 g1
  · exact a
  · exact b
  · exact g4.symm
theorem RL.cnt {t : List DSlot} {n : Int} {key : ByteArray} (h : RL t n key) {a b : Int} {i j : Nat} (ha : a = (((t.take i).countP (·.used) : Nat) : Int)) (hi : t.length ≤ i) (hb : b = ((((sizeR t n).take j).countP (·.used) : Nat) : Int)) (hj : (sizeR t n).length ≤ j) : a = b := by
  rw [ha, hb, List.take_of_length_le hi, List.take_of_length_le hj, h.ct]
theorem resize_bad {t : List DSlot} {n : Int} (h : sizeErr t n ≠ 0) : (((sizeR t n).length : Int) == 0) = true := by
  rw [show sizeR t n = [] from if_neg h]; rfl
theorem count_le (t : List DSlot) (i : Nat) : ((t.take i).countP (·.used)) ≤ i := Nat.le_trans List.countP_le_length (by rw [List.length_take]; omega)
theorem count_yes {t : List DSlot} {i : Nat} {c : Int} (h : c = (((t.take i).countP (·.used) : Nat) : Int)) (hi : i < t.length) (hu : (t.getD i default).used = true) : c + 1 = (((t.take (i + 1)).countP (·.used) : Nat) : Int) := by
  rw [getd_eq hi] at hu
  rw [List.take_succ_eq_append_getElem hi, List.countP_append, h]; simp [hu]
theorem count_no {t : List DSlot} {i : Nat} {c : Int} (h : c = (((t.take i).countP (·.used) : Nat) : Int)) (hi : i < t.length) (hu : (t.getD i default).used = false) : c = (((t.take (i + 1)).countP (·.used) : Nat) : Int) := by
  rw [getd_eq hi] at hu
  rw [List.take_succ_eq_append_getElem hi, List.countP_append, h]; simp [hu]
theorem same_no {a b : List DSlot} {i : Nat} (_hI : i ≤ a.length ∧ ∀ j, j < i → a.getD j default = b.getD j default) (_h1 : i < a.length) (_h2 : a.length = b.length) (hn : a.getD i default ≠ b.getD i default) : false = decide (a = b) := (decide_eq_false (fun e => hn (by rw [e]))).symm
theorem same_yes {a b : List DSlot} {i : Nat} (hI : i ≤ a.length ∧ ∀ j, j < i → a.getD j default = b.getD j default) (h1 : a.length ≤ i) (h2 : a.length = b.length) : true = decide (a = b) := by
  refine (decide_eq_true (List.ext_getElem h2 fun j ha hb => ?_)).symm
  rw [← getd_eq ha, ← getd_eq hb]; exact hI.2 j (by omega)
theorem same_next {a b : List DSlot} {i : Nat} (h : ∀ j, j < i → a.getD j default = b.getD j default) (he : a.getD i default = b.getD i default) : ∀ j, j < i + 1 → a.getD j default = b.getD j default := fun j hj => by
  rcases Nat.lt_or_ge j i with q | q
  · exact h j q
  · rw [show j = i by omega]; exact he
end Go.Sx.Tab
namespace Go.Sx.Tab
theorem slot_ext {x y : DSlot} (h : x.used = y.used ∧ x.key = y.key ∧ x.value = y.value) : x = y := by cases x; cases y; simp_all
theorem same_no2 {a b : List DSlot} {i : Nat} (hn : ¬ (a.getD i default).used = (b.getD i default).used ∨ ¬ (a.getD i default).key = (b.getD i default).key ∨ ¬ (a.getD i default).value = (b.getD i default).value) : false = decide (a = b) := by
  refine (decide_eq_false fun e => ?_).symm
  rcases hn with q | q | q <;> exact q (by rw [e])
theorem same_len {a b : List DSlot} (hn : ¬ (a.length : Int) = (b.length : Int)) : false = decide (a = b) := (decide_eq_false fun e => hn (by rw [e])).symm
end Go.Sx.Tab

/- The walks, printed by a program from the translation and a specification. -/
namespace Go.Proofs.Ythecfjipaepcgaa
open Go.Sx Go.RowKit
set_option maxHeartbeats 8000000 in
set_option maxRecDepth 100000 in
theorem sameSlots_ok (a : List DSlot) (aa : Option Addr) (ca : Nat) (b : List DSlot) (ab : Option Addr) (cb : Nat) : Fn0 Try.prog 26 [.slice aa a.length ca, .slice ab b.length cb] (fun w => Rd tSlot w aa ca a ∧ Rd tSlot w ab cb b) (.bool (decide (a = b))) := by
 refine fn0 (nt := 26) (F0 := [(0, .slice aa a.length ca), (1, .slice ab b.length cb)]) Try.func26 rfl Try.ntmps26 rfl rfl (fun w0 hpre => ?_)
 obtain ⟨ha, hb⟩ := hpre
 have hlha := ha.2.1
 have hlhb := hb.2.1
 refine c_seq (c_region ?_)
 refine o_as rfl rfl ?_
 refine o_nil (q_then (c_seq (c_seq (c_region ?_))))
 refine o_mv rfl rfl ?_
 refine o_p (p_len_slice rfl rfl Try.underlying22) ?_
 refine o_mv rfl rfl ?_
 refine o_p (p_len_slice rfl rfl Try.underlying22) ?_
 refine o_p (p_ne rfl rfl) ?_
 refine o_nil (q_then ?_)
 refine c_cond rfl (fun hc1 => ?_) (fun hc1 => ?_)
 ·simp only [bne_iff_ne, ne_eq] at hc1
  refine c_seq (c_region ?_)
  refine o_as rfl rfl ?_
  refine o_nil (q_then (c_ret ?_))
  refine q_then_ret ?_
  have hr0 : (false : Bool) = (decide (a = b)) := by
   first | exact Tab.same_len (by assumption) | exact Tab.same_no2 (by assumption) | exact Tab.same_yes hI (by omega) (by omega)
  refine q_end0 (v := .bool false) (rt1 rfl (r_tmp rfl)) (i := 0) rfl ?_
  exact (by have hcc := congrArg (fun (y0 : Bool) => (.bool y0 : Value)) hr0; exact hcc)
 ·simp only [bne_eq_false_iff_eq] at hc1
  refine c_skip (q_then (c_seq (c_seq (c_region ?_))))
  refine o_as rfl rfl ?_
  refine o_nil (q_then (c_block ?_))
  refine c_loop (St := Nat)
   (fun i => [(0, .slice aa a.length ca), (1, .slice ab b.length cb), (5, Vi (i : Int))])
   (fun i => [base w0])
   (fun i => i ≤ a.length ∧ ∀ j, j < i → a.getD j default = b.getD j default)
   (fun i => a.length - i)
   0 ?_ (sr (sr (sr (Sub.nil _)))) (fun _ hw => hw) ?_
  ·exact ⟨Nat.zero_le _, fun j h => absurd h (Nat.not_lt_zero j)⟩
  rintro i hI K hK2
  show SC _ _ Try.prog 26 w0 _ _ [(0, .slice aa a.length ca), (1, .slice ab b.length cb), (5, Vi (i : Int))] [base w0]
  refine c_seq (c_seq (c_region ?_))
  refine o_mv rfl rfl ?_
  refine o_mv rfl rfl ?_
  refine o_p (p_len_slice rfl rfl Try.underlying22) ?_
  refine o_p (p_lt rfl rfl) ?_
  refine o_nil (q_then ?_)
  refine c_cond rfl (fun hc3 => ?_) (fun hc3 => ?_)
  ·simp only [decide_eq_true_eq] at hc3
   refine c_skip (q_then (c_seq (c_block (c_seq ?_))))
   refine c_draw hmix (by kernel_rfl) ?_
   refine w_mv rfl rfl ?_
   refine w_mv rfl rfl ?_
   refine w_p (p_indexAddr (L := a) (T := tSlot) (i := (i : Int)) rfl rfl (rd_base (i := 0) rfl ha) Try.underlying22 sz33 (by omega) (by omega)) ?_
   refine w_p (p_loadEn (i := i) (T := tSlot) (L := a) (vs := [.bool ((a.getD i default).used), .string ((a.getD i default).key), Vi ((a.getD i default).value)]) rfl (rd_base (i := 0) rfl ha) (by first | assumption | omega) sh33 (congrArg tSlot.enc (getd_at (by first | assumption | omega) default))) ?_
   refine w_mv rfl rfl ?_
   refine w_mv rfl rfl ?_
   refine w_p (p_indexAddr (L := b) (T := tSlot) (i := (i : Int)) rfl rfl (rd_base (i := 0) rfl hb) Try.underlying22 sz33 (by omega) (by omega)) ?_
   refine w_p (p_loadEn (i := i) (T := tSlot) (L := b) (vs := [.bool ((b.getD i default).used), .string ((b.getD i default).key), Vi ((b.getD i default).value)]) rfl (rd_base (i := 0) rfl hb) (by first | assumption | omega) sh33 (congrArg tSlot.enc (getd_at (by first | assumption | omega) default))) ?_
   refine w_p (p_neStruct (xs := [.bool ((a.getD i default).used), .string ((a.getD i default).key), Vi ((a.getD i default).value)]) (ys := [.bool ((b.getD i default).used), .string ((b.getD i default).key), Vi ((b.getD i default).value)]) (r := (((a.getD i default).used == (b.getD i default).used) && (decide ((a.getD i default).key = (b.getD i default).key) && ((a.getD i default).value == (b.getD i default).value)))) rfl rfl eqS33) ?_
   refine w_nil (q_then ?_)
   refine c_cond rfl (fun hc4 => ?_) (fun hc4 => ?_)
   ·simp only [Bool.not_eq_true', Bool.and_eq_false_iff, beq_eq_false_iff_ne, ne_eq, decide_eq_false_iff_not] at hc4
    refine c_seq (c_region ?_)
    refine o_as rfl rfl ?_
    refine o_nil (q_then (c_ret ?_))
    refine q_block_ret (q_then_ret (q_then_ret (q_block_ret (q_then_ret ?_))))
    have hr0 : (false : Bool) = (decide (a = b)) := by
     first | exact Tab.same_len (by assumption) | exact Tab.same_no2 (by assumption) | exact Tab.same_yes hI (by omega) (by omega)
    refine q_end0 (v := .bool false) (rt1 rfl (r_tmp rfl)) (i := 0) rfl ?_
    exact (by have hcc := congrArg (fun (y0 : Bool) => (.bool y0 : Value)) hr0; exact hcc)
   ·simp only [Bool.not_eq_false', Bool.and_eq_true, beq_iff_eq, decide_eq_true_eq] at hc4
    refine c_skip ?_
    refine q_block_normal (q_then ?_)
    refine c_region ?_
    refine o_mv rfl rfl ?_
    refine o_p (p_addb rfl rfl (by omega)) ?_
    refine o_as rfl rfl ?_
    refine o_nil ?_
    refine q_round hK2 (i + 1) ?_ ?_ ?_ ?_
    ·clear hK2
     exact ⟨by omega, Tab.same_next hI.2 (Tab.slot_ext (by assumption))⟩
    ·(try dsimp only); omega
    ·exact sr (sr (sr (Sub.nil _)))
    ·exact pk [0]
  ·simp only [decide_eq_false_iff_not, Int.not_lt] at hc3
   refine c_exit ?_
   refine q_then_exit (q_then_exit (q_block_exit (q_then ?_)))
   refine c_seq (c_region ?_)
   refine o_as rfl rfl ?_
   refine o_nil (q_then (c_ret ?_))
   have hr0 : (true : Bool) = (decide (a = b)) := by
    first | exact Tab.same_len (by assumption) | exact Tab.same_no2 (by assumption) | exact Tab.same_yes hI (by omega) (by omega)
   refine q_end0 (v := .bool true) (rt1 rfl (r_tmp rfl)) (i := 0) rfl ?_
   exact (by have hcc := congrArg (fun (y0 : Bool) => (.bool y0 : Value)) hr0; exact hcc)
end Go.Proofs.Ythecfjipaepcgaa

/- Hash tables: the order of two keys; a key put and deleted. -/
namespace Go.Sx.Tab
theorem P_add {n : Nat} (hn : 1 ≤ n ∧ n ≤ 64) (key : ByteArray) (m j : Nat) : P n key (m + j) = (P n key m + j) % n := by
  rw [P_eq hn, P_eq hn, Nat.mod_add_mod, Nat.add_assoc]
theorem wrap_step {n h m : Nat} (hm : n ≤ m) : (h + (m - n)) % n = (h + m) % n := by rw [show h + m = (h + (m - n)) + n by omega, Nat.add_mod_right]
theorem wrap_lt {ma m1 mb n : Nat} (h1 : m1 < n) (c : n ≤ ma + (m1 - mb)) : ma + (m1 - mb) - n < ma := by omega
theorem wrap_in {ma m1 mb m' : Nat} (hm : m' < ma + (m1 - mb)) (c : ma ≤ m') (hlt : mb < m1) : mb + (m' - ma) < m1 := by omega
theorem P_wrap {n : Nat} (hn : 1 ≤ n ∧ n ≤ 64) (key : ByteArray) {m : Nat} (hm : n ≤ m) : P n key (m - n) = P n key m := by rw [P_eq hn, P_eq hn]; exact wrap_step hm
section
variable {t : List DSlot} {key a b : ByteArray} {x y : Int} {p q r : Nat}
theorem PF.at_ (f : PF t key p) (h : Ok t) : putAt t key = (p : Int) := by
  by_cases u : U t p = true
  · obtain ⟨m, _, _, _, e⟩ := h.at_ f.lt u (f.old u); exact e
  · have hno : ∀ i, i < t.length → U t i = true → K t i ≠ key := fun i hi ui e => by
      have := f.one i hi ui e; subst this; exact u ui
    obtain ⟨m, m1, m2, m3⟩ := f.way
    rcases put_miss hno h.len t.length 0 (by omega) with ⟨_, h1⟩ | ⟨m', _, h2, h3, h4, h5⟩
    · have := h1 m (Nat.zero_le _) m1; rw [m2] at this; exact absurd this u
    · have e : putAt t key = (P t.length key m' : Int) := h3
      rw [e, ← m2]
      rcases Nat.lt_trichotomy m m' with c | c | c
      · have := h5 m (Nat.zero_le _) c; rw [m2] at this; exact absurd this u
      · rw [c]
      · have := m3 m' c; rw [h4] at this; cases this
theorem len_set (t : List DSlot) (p : Nat) (s : DSlot) : (t.set p s).length = t.length := List.length_set
theorem U_up {i : Nat} {v : Int} (hi : i < t.length) (h : U t i = true) : U (t.set p ⟨true, key, v⟩) i = true := by rw [U_set hi]; split; rfl; exact h
/-- another key's place stays -/
theorem PF.far (f : PF t a p) (g : PF t b q) (h : Ok t) (hne : a ≠ b) (hpq : p ≠ q) : PF (t.set q ⟨true, b, y⟩) a p := by
  refine ⟨by rw [len_set]; exact f.lt, fun u => ?_, fun i hi u e => ?_, ?_⟩
  · rw [U_set f.lt, if_neg (by omega)] at u
    rw [K_set f.lt, if_neg (by omega)]; exact f.old u
  · rw [len_set] at hi
    rw [U_set hi] at u; rw [K_set hi] at e
    by_cases c : q = i
    · rw [if_pos c] at e; exact absurd e.symm hne
    · rw [if_neg c] at u e; exact f.one i hi u e
  · obtain ⟨m, m1, m2, m3⟩ := f.way
    rw [len_set]
    exact ⟨m, m1, m2, fun m' c => U_up (P_lt h.len a m') (m3 m' c)⟩
theorem PF.near (f : PF t a p) (g : PF t b p) (h : Ok t) (hne : a ≠ b) (k : PF (t.set p ⟨true, a, x⟩) b r) : PF (t.set p ⟨true, b, y⟩) a r ∧ U t r = false ∧ r ≠ p := by
  have up : U t p = false := by
    rcases Bool.eq_false_or_eq_true (U t p) with c | c
    · exact absurd ((f.old c).symm.trans (g.old c)) hne
    · exact c
  have hr : r < t.length := by have := k.lt; rw [len_set] at this; exact this
  have hrp : r ≠ p := by
    rintro rfl
    have := k.old (by rw [U_set f.lt, if_pos rfl])
    rw [K_set f.lt, if_pos rfl] at this; exact hne this
  have ur : U t r = false := by
    rcases Bool.eq_false_or_eq_true (U t r) with c | c
    · have := k.old (by rw [U_set hr, if_neg (by omega)]; exact c)
      rw [K_set hr, if_neg (by omega)] at this
      exact absurd (g.one r hr c this) hrp
    · exact c
  refine ⟨⟨by rw [len_set]; exact hr, fun u => ?_, fun i hi u e => ?_, ?_⟩, ur, hrp⟩
  · rw [U_set hr, if_neg (by omega), ur] at u; cases u
  · rw [len_set] at hi
    rw [U_set hi] at u; rw [K_set hi] at e
    by_cases c : p = i
    · rw [if_pos c] at e; exact absurd e.symm hne
    · rw [if_neg c] at u e; have := f.one i hi u e; omega
  · obtain ⟨ma, a1, a2, a3⟩ := f.way
    obtain ⟨mb, b1, b2, b3⟩ := g.way
    obtain ⟨m1, c1, c2, c3⟩ := k.way
    rw [len_set] at c1 c2 c3
    have hlt : mb < m1 := by
      rcases Nat.lt_trichotomy m1 mb with c | c | c
      · have := b3 m1 c; rw [c2, ur] at this; cases this
      · rw [c, b2] at c2; exact absurd c2.symm hrp
      · exact c
    have hP : ∀ j, P t.length a (ma + j) = P t.length b (mb + j) := fun j => by rw [P_add h.len, P_add h.len, a2, b2]
    have e1 : P t.length a (ma + (m1 - mb)) = r := by rw [hP, Nat.add_sub_cancel' (Nat.le_of_lt hlt)]; exact c2
    have hm2 : ma + (m1 - mb) < t.length := by
      rcases Nat.lt_or_ge (ma + (m1 - mb)) t.length with c | c
      · exact c
      · exfalso
        have e2 := P_wrap h.len a c
        rw [e1] at e2
        have := a3 (ma + (m1 - mb) - t.length) (wrap_lt c1 c)
        rw [e2, ur] at this; cases this
    rw [len_set]
    refine ⟨ma + (m1 - mb), hm2, e1, fun m' hm' => ?_⟩
    rcases Nat.lt_or_ge m' ma with c | c
    · exact U_up (P_lt h.len a m') (a3 m' c)
    · have e3 := hP (m' - ma)
      rw [Nat.add_sub_cancel' c] at e3
      have := c3 (mb + (m' - ma)) (wrap_in hm' c hlt)
      rw [← e3, U_set (P_lt h.len a m')] at this
      rw [U_set (P_lt h.len a m')]; exact this
theorem ite3 {r p i : Nat} {u : Bool} : ((if r = i then true else if p = i then true else u) = true) ↔ (i = p ∨ i = r) ∨ u = true := by
  by_cases c : r = i
  · simp [c]
  · by_cases d : p = i
    · simp [d]
    · rw [if_neg c, if_neg d]; exact ⟨.inr, fun q => q.elim (fun q => q.elim (fun q => absurd q.symm d) (fun q => absurd q.symm c)) id⟩
/-- the slots that two keys take -/
theorem two_puts (h : Ok t) (hne : a ≠ b) (ha : a.size ≤ 40) (hb : b.size ≤ 40) (hx : okVal x = true) (hy : okVal y = true) (h1 : 0 ≤ putAt t a) (h2 : 0 ≤ putAt t b) (h3 : 0 ≤ putAt (put t a x) b) :
    0 ≤ putAt (put t b y) a ∧ ∀ i, i < t.length → U (put (put t a x) b y) i = U (put (put t b y) a x) i := by
  obtain ⟨p, p1, f⟩ := put_facts h h1
  obtain ⟨q, q1, g⟩ := put_facts h h2
  have ok1 := f.ok (v := x) h ha hx
  have ok2 := g.ok (v := y) h hb hy
  rw [put_eq p1] at h3 ⊢
  rw [put_eq q1]
  obtain ⟨r, r1, k⟩ := put_facts ok1 h3
  rw [put_eq r1]
  have fin : ∀ s : Nat, PF (t.set q ⟨true, b, y⟩) a s → (∀ i, i < t.length → ((i = p ∨ i = r) ∨ U t i = true ↔ (i = q ∨ i = s) ∨ U t i = true)) → 0 ≤ putAt (t.set q ⟨true, b, y⟩) a ∧ ∀ i, i < t.length → U ((t.set p ⟨true, a, x⟩).set r ⟨true, b, y⟩) i = U (put (t.set q ⟨true, b, y⟩) a x) i := fun s k2 hiff => by
    have s1 := k2.at_ ok2
    refine ⟨by omega, fun i hi => ?_⟩
    rw [put_eq s1, U_set (by rw [len_set]; exact hi), U_set hi, U_set (by rw [len_set]; exact hi), U_set hi]
    rw [Bool.eq_iff_iff, ite3, ite3]
    exact hiff i hi
  by_cases hpq : p = q
  · subst hpq
    obtain ⟨k2, _, _⟩ := PF.near (y := y) f g h hne k
    exact fin r k2 (fun i _ => Iff.rfl)
  · have k2 := f.far (y := y) g h hne hpq
    have k3 := g.far (y := x) f h (Ne.symm hne) (Ne.symm hpq)
    have e : r = q := by have := k3.at_ ok1; omega
    subst e
    exact fin p k2 (fun i _ => by constructor <;> (rintro ((c | c) | c) <;> simp [c]))
theorem putErr_ok {v : Int} (h : putErr t key v = 0) : Ok t ∧ key.size ≤ 40 ∧ okVal v = true ∧ 0 ≤ putAt t key ∧ putR t key v = put t key v := by
  have e := h
  unfold putErr at h
  split at h
  · rename_i h1; exact absurd h h1
  · rename_i h1
    split at h
    · cases h
    · rename_i h2
      split at h
      · cases h
      · refine ⟨check_ok.1 (by simpa using h1), by omega, ?_, by omega, if_pos e⟩
        rcases Bool.eq_false_or_eq_true (okVal v) with c | c
        · exact c
        · exact absurd (.inr c) h2
theorem putErr_of {v : Int} (h : Ok t) (hk : key.size ≤ 40) (hv : okVal v = true) : putErr t key v = if putAt t key < 0 then 8 else 0 := by
  unfold putErr; rw [if_neg (by simp [check_ok.2 h]), if_neg (rg_no ⟨by omega, hv⟩)]
structure OL (t : List DSlot) (a b : ByteArray) (x y : Int) : Prop where
  bad : ¬ putErr (putR t a x) b y = 0 ∨ ¬ putErr (putR t b y) a x = 0 → ((putErr (putR t a x) b y == putErr (putR t b y) a x) && (putErr (putR t a x) b y == 8)) = true
  good : putErr (putR t a x) b y = 0 → putErr (putR t b y) a x = 0 → (putR (putR t b y) a x).length = (putR (putR t a x) b y).length ∧ ∀ i, i < (putR (putR t a x) b y).length → ((putR (putR t a x) b y).getD i default).used = ((putR (putR t b y) a x).getD i default).used
theorem order_law (h1 : putErr t a x = 0) (h2 : putErr t b y = 0) (hne : ¬ a = b) : OL t a b x y := by
  obtain ⟨ho, ka, vx, pa, ea⟩ := putErr_ok h1
  obtain ⟨_, kb, vy, pb, eb⟩ := putErr_ok h2
  obtain ⟨p, p1, f⟩ := put_facts ho pa
  obtain ⟨q, q1, g⟩ := put_facts ho pb
  have ok1 : Ok (put t a x) := by rw [put_eq p1]; exact f.ok ho ka vx
  have ok2 : Ok (put t b y) := by rw [put_eq q1]; exact g.ok ho kb vy
  rw [show OL t a b x y = OL t a b x y from rfl]
  have z1 := putErr_of ok1 kb vy
  have z2 := putErr_of ok2 ka vx
  constructor
  · rw [ea, eb, z1, z2]
    intro hz
    have hA : ∀ hh : 0 ≤ putAt (put t a x) b, 0 ≤ putAt (put t b y) a := fun hh => (two_puts ho hne ka kb vx vy pa pb hh).1
    have hB : ∀ hh : 0 ≤ putAt (put t b y) a, 0 ≤ putAt (put t a x) b := fun hh => (two_puts ho (Ne.symm hne) kb ka vy vx pb pa hh).1
    by_cases c : putAt (put t a x) b < 0
    · have c2 : putAt (put t b y) a < 0 := by
        rcases Int.lt_or_le (putAt (put t b y) a) 0 with d | d
        · exact d
        · have := hB d; omega
      rw [if_pos c, if_pos c2]; decide
    · have c2 := hA (by omega)
      rw [if_neg c, if_neg (by omega)] at hz
      simp at hz
  · rw [ea, eb]
    intro e1 e2
    have w1 := putErr_ok e1
    have w2 := putErr_ok e2
    rw [w1.2.2.2.2, w2.2.2.2.2]
    have := two_puts ho hne ka kb vx vy pa pb w1.2.2.2.1
    refine ⟨by simp only [put_len], fun i hi => this.2 i (by simpa only [put_len] using hi)⟩
/-! ### a key put and deleted -/
theorem tm {n u v : Int} (hu : 0 ≤ u ∧ u < n) (hv : 0 ≤ v ∧ v < n) : (v - u + n).tmod n = if u ≤ v then v - u else v - u + n := by
  rw [Int.tmod_eq_emod_of_nonneg (by omega)]
  split
  · rw [Int.add_emod_right]; exact Int.emod_eq_of_lt (by omega) (by omega)
  · exact Int.emod_eq_of_lt (by omega) (by omega)
theorem P_dist {n : Nat} (hn : 1 ≤ n ∧ n ≤ 64) (key : ByteArray) {s : Nat} (hs : s < n) : P n key (((s : Int) - home key (n : Int) + (n : Int)).tmod (n : Int)).toNat = s ∧ (((s : Int) - home key (n : Int) + (n : Int)).tmod (n : Int)).toNat < n := by
  have hh := home_bd key (n := (n : Int)) (by omega)
  rw [tm hh (by omega), P_eq hn]
  split
  · exact ⟨by rw [show (home key (n : Int)).toNat + ((s : Int) - home key (n : Int)).toNat = s by omega]; exact Nat.mod_eq_of_lt hs, by omega⟩
  · refine ⟨?_, by omega⟩
    rw [show (home key (n : Int)).toNat + ((s : Int) - home key (n : Int) + (n : Int)).toNat = s + n by omega, Nat.add_mod_right]; exact Nat.mod_eq_of_lt hs
theorem stay (h : Ok t) (hp : p < t.length) (up : U t p = false) : ∀ f k, dropGo (t.length : Int) (p : Int) f k t (p : Int) = t
  | 0, _ => rfl
  | f + 1, k => by
    have hn := h.len
    have hb := place_bd (h := (p : Int)) (n := (t.length : Int)) (by omega) (Int.natCast_nonneg p) k
    rw [dropGo]
    obtain ⟨s, hs⟩ : ∃ s : Nat, place (p : Int) (t.length : Int) k = (s : Int) := ⟨_, (Int.toNat_of_nonneg hb.1).symm⟩
    rw [hs] at hb ⊢
    by_cases c : (s : Int) = (p : Int)
    · rw [if_pos c]; exact stay h hp up f (k + 1)
    · rw [if_neg c, Int.toNat_natCast]
      by_cases u : (t.getD s default).used = false
      · rw [if_pos u]
      · have hsl : s < t.length := by omega
        have us : U t s = true := by unfold U; simpa using u
        obtain ⟨m, m1, m2, m3⟩ := h.reach s hsl us
        have hh := home_bd (K t s) (n := (t.length : Int)) (by omega)
        obtain ⟨d1, d2⟩ := P_dist hn (K t s) hsl
        obtain ⟨d3, d4⟩ := P_dist hn (K t s) hp
        have em := P_inj hn m1 d2 (m2.trans d1.symm)
        have hlt : ¬ (((p : Int) - home (K t s) (t.length : Int) + (t.length : Int)).tmod (t.length : Int)).toNat < m := fun q => by
          have := m3 _ q; rw [d3, up] at this; cases this
        clear m2 d1 d3
        rw [if_neg u, if_neg]
        · exact stay h hp up f (k + 1)
        · rw [em] at hlt
          rw [tm hh (by omega), tm hh (by omega)] at hlt
          rw [tm (by omega) hb, show (t.getD s default).key = K t s from rfl, tm hh hb]
          generalize home (K t s) (t.length : Int) = hm at *
          split at hlt <;> split at hlt <;> (try split) <;> (try split) <;> omega
theorem undo_law (h1 : putErr t a x = 0) (h2 : keyErr t a = 5) : keyErr (putR t a x) a = 0 ∧ delR (putR t a x) a = t := by
  obtain ⟨ho, ka, vx, pa, ea⟩ := putErr_ok h1
  obtain ⟨p, p1, f⟩ := put_facts ho pa
  have hc : ¬ ∃ v, C t a v := by
    rintro ⟨v, hv⟩
    have := (get_yes ho ka hv).1; rw [h2] at this; cases this
  have up : U t p = false := by
    rcases Bool.eq_false_or_eq_true (U t p) with c | c
    · exact absurd (f.old c) (absent_of hc p f.lt c)
    · exact c
  have ok1 := f.ok (v := x) ho ka vx
  have hl : (t.set p (⟨true, a, x⟩ : DSlot)).length = t.length := len_set _ _ _
  obtain ⟨m, m1, m2, m3, _⟩ := ok1.at_ (key := a) (i := p) (by rw [hl]; exact f.lt) (by rw [U_set f.lt, if_pos rfl]) (by rw [K_set f.lt, if_pos rfl])
  rw [ea, put_eq p1]
  have hk : keyErr (t.set p ⟨true, a, x⟩) a = 0 := (get_yes ok1 ka ((f.c (v := x) a x).2 (by rw [if_pos rfl]))).1
  refine ⟨hk, ?_⟩
  rw [show delR (t.set p ⟨true, a, x⟩) a = drop (t.set p ⟨true, a, x⟩) a from if_pos hk]
  unfold drop
  rw [m3, hl]
  show dropGo (t.length : Int) (p : Int) t.length 0 ((t.set p ⟨true, a, x⟩).set (p : Int).toNat none_) (p : Int) = t
  rw [Int.toNat_natCast, List.set_set]
  have e0 : t[p]'f.lt = none_ := by
    have h9 := ho.one p f.lt
    have h8 : (t.getD p default).used = false := up
    rw [getd_eq f.lt] at h9 h8
    unfold Tab.one at h9
    split at h9
    · cases h9
    · rename_i h7
      exact Classical.byContradiction fun q => h7 ⟨h8, q⟩
  rw [show t.set p none_ = t by rw [← e0]; exact List.set_getElem_self f.lt]
  exact stay ho f.lt up _ _
end
end Go.Sx.Tab

/- Hash tables: the references. -/
namespace Go.Sx.Tab
def slotGo (t : List DSlot) (key : ByteArray) : Nat → Nat → Int
  | 0, _ => -1
  | f + 1, k => if (t.getD k default).used = true ∧ (t.getD k default).key = key then (k : Int) else slotGo t key f (k + 1)
def slotOf (t : List DSlot) (key : ByteArray) : Int := slotGo t key t.length 0
structure SI (t : List DSlot) (key : ByteArray) (k : Nat) : Prop where
  le : k ≤ t.length
  eq : slotGo t key (t.length - k) k = slotOf t key
theorem SI.start (t : List DSlot) (key : ByteArray) : SI t key 0 := ⟨Nat.zero_le _, rfl⟩
section
variable {t : List DSlot} {key : ByteArray} {k : Nat}
theorem slot_step (hk : k < t.length) : slotGo t key (t.length - k) k = if (t.getD k default).used = true ∧ (t.getD k default).key = key then (k : Int) else slotGo t key (t.length - (k + 1)) (k + 1) := by
  rw [show t.length - k = (t.length - (k + 1)) + 1 by omega, slotGo]
theorem SI.here (h : SI t key k) (hk : k < t.length) (he : (t.getD k default).used = true ∧ (t.getD k default).key = key) : (k : Int) = slotOf t key := by rw [← h.eq, slot_step hk, if_pos he]
theorem SI.next (h : SI t key k) (hk : k < t.length) (he : ¬ ((t.getD k default).used = true ∧ (t.getD k default).key = key)) : SI t key (k + 1) := ⟨hk, by rw [← h.eq, slot_step hk, if_neg he]⟩
theorem SI.done (h : SI t key k) (hk : t.length ≤ k) : -1 = slotOf t key := by rw [← h.eq, show t.length - k = 0 by omega]; rfl
end
theorem slotGo_cases (t : List DSlot) (key : ByteArray) : ∀ f k, f + k = t.length → (∃ i : Nat, k ≤ i ∧ i < t.length ∧ slotGo t key f k = (i : Int) ∧ U t i = true ∧ K t i = key) ∨ (slotGo t key f k = -1 ∧ ∀ i, k ≤ i → i < t.length → U t i = true → K t i ≠ key)
  | 0, k, hk => .inr ⟨rfl, fun i h1 h2 => by omega⟩
  | f + 1, k, hk => by
    rw [slotGo]
    by_cases c : (t.getD k default).used = true ∧ (t.getD k default).key = key
    · rw [if_pos c]; exact .inl ⟨k, Nat.le_refl _, by omega, rfl, c.1, c.2⟩
    · rw [if_neg c]
      rcases slotGo_cases t key f (k + 1) (by omega) with ⟨i, a, b, d⟩ | ⟨a, b⟩
      · exact .inl ⟨i, by omega, b, d⟩
      · refine .inr ⟨a, fun i h1 h2 h3 h4 => ?_⟩
        rcases Nat.eq_or_lt_of_le h1 with q | q
        · subst q; exact c ⟨h3, h4⟩
        · exact b i q h2 h3 h4
theorem slotOf_cases (t : List DSlot) (key : ByteArray) : (∃ i : Nat, i < t.length ∧ slotOf t key = (i : Int) ∧ U t i = true ∧ K t i = key) ∨ (slotOf t key = -1 ∧ ∀ i, i < t.length → U t i = true → K t i ≠ key) := by
  rcases slotGo_cases t key t.length 0 (by omega) with ⟨i, _, b, d⟩ | ⟨a, b⟩
  · exact .inl ⟨i, b, d⟩
  · exact .inr ⟨a, fun i hi => b i (Nat.zero_le _) hi⟩
/-- the reference finds what the program finds -/
theorem find_slot {t : List DSlot} (h : Ok t) (key : ByteArray) : (find t key).1 = slotOf t key := by
  rcases slotOf_cases t key with ⟨i, hi, e, u, k⟩ | ⟨e, hno⟩
  · obtain ⟨m, _, _, m3, _⟩ := h.at_ hi u k
    rw [m3, e]
  · rw [e, show find t key = (-1, 0) from find_miss hno h.len _ _]
/-- the reference's way back over the probes: the first that is not used -/
structure BI (t : List DSlot) (key : ByteArray) (at_ : Int) (i : Int) : Prop where
  lo : -1 ≤ i
  hi : i < (t.length : Int)
  no : slotOf t key < 0 → (at_ = -1 ∧ ∀ m : Nat, i < (m : Int) → m < t.length → U t (P t.length key m) = true) ∨ ∃ m : Nat, i < (m : Int) ∧ m < t.length ∧ at_ = (P t.length key m : Int) ∧ U t (P t.length key m) = false ∧ ∀ m' : Nat, i < (m' : Int) → m' < m → U t (P t.length key m') = true
  yes : 0 ≤ slotOf t key → at_ = slotOf t key
section
variable {t : List DSlot} {key : ByteArray} {at_ i : Int}
theorem BI.start (t : List DSlot) (key : ByteArray) (h : 1 ≤ t.length) : BI t key (slotOf t key) ((t.length : Int) - 1) := by
  refine ⟨by omega, by omega, fun hs => .inl ⟨?_, fun m h1 h2 => by omega⟩, fun _ => rfl⟩
  rcases slotOf_cases t key with ⟨i, _, e, _⟩ | ⟨e, _⟩ <;> omega
theorem BI.free (h : BI t key at_ i) (h0 : 0 ≤ i) (hs : slotOf t key < 0) (hu : U t (P t.length key i.toNat) = false) : BI t key (P t.length key i.toNat : Int) (i - 1) := by
  have h1 := h.hi
  refine ⟨by omega, by omega, fun _ => .inr ⟨i.toNat, by omega, by omega, rfl, hu, fun m' a b => by omega⟩, fun q => by omega⟩
theorem BI.used (h : BI t key at_ i) (h0 : 0 ≤ i) (hs : slotOf t key < 0) (hu : U t (P t.length key i.toNat) = true) : BI t key at_ (i - 1) := by
  have h1 := h.hi
  have key' : ∀ m : Nat, i - 1 < (m : Int) → ¬ i < (m : Int) → m = i.toNat := fun m a b => by omega
  refine ⟨by omega, by omega, fun _ => ?_, fun q => by omega⟩
  rcases h.no hs with ⟨a, b⟩ | ⟨m, a, b, c, d, e⟩
  · refine .inl ⟨a, fun m h2 h3 => ?_⟩
    by_cases q : i < (m : Int)
    · exact b m q h3
    · rw [key' m h2 q]; exact hu
  · refine .inr ⟨m, by omega, b, c, d, fun m' h2 h3 => ?_⟩
    by_cases q : i < (m' : Int)
    · exact e m' q h3
    · rw [key' m' h2 q]; exact hu
theorem BI.done (h : BI t key at_ i) (ho : Ok t) (hi : i < 0 ∨ 0 ≤ slotOf t key) : at_ = putAt t key := by
  rcases slotOf_cases t key with ⟨j, hj, e, u, k⟩ | ⟨e, hno⟩
  · obtain ⟨m, _, _, _, m4⟩ := ho.at_ hj u k
    rw [m4, h.yes (by omega), e]
  · have h1 : i < 0 := by omega
    have h2 := h.no (by omega)
    rcases put_miss hno ho.len t.length 0 (by omega) with ⟨p1, p2⟩ | ⟨m, _, p2, p3, p4, p5⟩
    · have p : putAt t key = -1 := p1
      rcases h2 with ⟨a, _⟩ | ⟨m, a, b, c, d, _⟩
      · rw [a, p]
      · have := p2 m (Nat.zero_le _) b; rw [d] at this; cases this
    · have p : putAt t key = (P t.length key m : Int) := p3
      rcases h2 with ⟨_, b⟩ | ⟨m', a, b, c, d, e'⟩
      · have := b m (by clear p p3 p4 p5; omega) p2; rw [p4] at this; cases this
      · rw [c, p]
        rcases Nat.lt_trichotomy m m' with q | q | q
        · have := e' m (by clear p p3 p4 p5 c d; omega) q; rw [p4] at this; cases this
        · rw [q]
        · have := p5 m' (Nat.zero_le _) q; rw [d] at this; cases this
end
end Go.Sx.Tab
namespace Go.Sx.Tab
def putT (t : List DSlot) (key : ByteArray) (v : Int) : List DSlot := if putAt t key < 0 then [] else put t key v
theorem pt_no {t : List DSlot} {key : ByteArray} {v : Int} (h : putAt t key < 0) : putT t key v = [] ∧ (!decide (putAt t key < 0)) = false := ⟨if_pos h, by simp [h]⟩
theorem pt_yes {t : List DSlot} {key : ByteArray} {v : Int} (h : 0 ≤ putAt t key) : putT t key v = t.set (putAt t key).toNat ⟨true, key, v⟩ ∧ (!decide (putAt t key < 0)) = true := by
  refine ⟨?_, by simp; omega⟩
  rw [show putT t key v = put t key v from if_neg (by omega)]; unfold put; rw [if_neg (by omega)]
theorem BI.free2 {t : List DSlot} {key : ByteArray} {at_ i : Int} (h : BI t key at_ i) (ho : Ok t) (h0 : 0 ≤ i) (hs : slotOf t key < 0) (hu : (t.getD ((home key (t.length : Int) + i).tmod (t.length : Int)).toNat default).used = false) : BI t key ((home key (t.length : Int) + i).tmod (t.length : Int)) (i - 1) := by
  have e : (home key (t.length : Int) + i).tmod (t.length : Int) = (P t.length key i.toNat : Int) := by
    rw [← P_int ho.len]; unfold place; rw [Int.toNat_of_nonneg h0]
  rw [e] at hu ⊢
  exact h.free h0 hs (by unfold U; rw [Int.toNat_natCast] at hu; exact hu)
theorem BI.used2 {t : List DSlot} {key : ByteArray} {at_ i : Int} (h : BI t key at_ i) (ho : Ok t) (h0 : 0 ≤ i) (hs : slotOf t key < 0) (hu : (t.getD ((home key (t.length : Int) + i).tmod (t.length : Int)).toNat default).used = true) : BI t key at_ (i - 1) := by
  have e : (home key (t.length : Int) + i).tmod (t.length : Int) = (P t.length key i.toNat : Int) := by
    rw [← P_int ho.len]; unfold place; rw [Int.toNat_of_nonneg h0]
  rw [e] at hu
  exact h.used h0 hs (by unfold U; rw [Int.toNat_natCast] at hu; exact hu)
end Go.Sx.Tab
namespace Go.Sx.Tab
theorem tmod_bd {h i n : Int} (h0 : 0 ≤ h) (i0 : 0 ≤ i) (n1 : 1 ≤ n) : 0 ≤ (h + i).tmod n ∧ (h + i).tmod n < n := by
  rw [Int.tmod_eq_emod_of_nonneg (by omega)]
  exact ⟨Int.emod_nonneg _ (by omega), Int.emod_lt_of_pos _ (by omega)⟩
theorem SI.next2 {t : List DSlot} {key : ByteArray} {k : Nat} (h : SI t key k) (hk : k < t.length) (he : (t.getD k default).used = false ∨ ¬ (t.getD k default).key = key) : SI t key (k + 1) := h.next hk (by rintro ⟨a, b⟩; rcases he with q | q; rw [a] at q; cases q; exact q b)
end Go.Sx.Tab

/- The walks, printed by a program from the translation and a specification. -/
namespace Go.Proofs.Ythecfjipaepcgaa
open Go.Sx Go.RowKit
set_option maxHeartbeats 8000000 in
set_option maxRecDepth 100000 in
theorem half_ok (n : UInt64) (many : Int) (hy1 : 0 ≤ many ∧ many ≤ 64) : Fn0 Try.prog 93 [.int .u64 (n.toNat : Int), Vi many] (fun _ => True) (.int .u64 ((shrU n many.toNat).toNat : Int)) := by
 refine fn0 (nt := 14) (F0 := [(0, .int .u64 (n.toNat : Int)), (1, Vi many)]) Try.func93 rfl Try.ntmps93 rfl rfl (fun w0 hpre => ?_)
 refine c_seq (c_region ?_)
 refine o_as rfl rfl ?_
 refine o_nil (q_then (c_seq (c_seq (c_region ?_))))
 refine o_as rfl rfl ?_
 refine o_nil (q_then (c_block ?_))
 refine c_loop (St := UInt64 × Nat)
  (fun ⟨m, i⟩ => [(0, .int .u64 (m.toNat : Int)), (1, Vi many), (5, Vi (i : Int))])
  (fun ⟨m, i⟩ => [base w0])
  (fun ⟨m, i⟩ => i ≤ many.toNat ∧ m = shrU n i)
  (fun ⟨m, i⟩ => many.toNat - i)
  (n, 0) ?_ (sr (sr (sr (Sub.nil _)))) (fun _ hw => hw) ?_
 ·exact ⟨Nat.zero_le _, (Hash.shrU_zero n).symm⟩
 rintro ⟨m, i⟩ hI K hK1
 obtain ⟨hk, ho⟩ := hI
 show SC _ _ Try.prog 14 w0 _ _ [(0, .int .u64 (m.toNat : Int)), (1, Vi many), (5, Vi (i : Int))] [base w0]
 refine c_seq (c_seq (c_region ?_))
 refine o_mv rfl rfl ?_
 refine o_mv rfl rfl ?_
 refine o_p (p_lt rfl rfl) ?_
 refine o_nil (q_then ?_)
 refine c_cond rfl (fun hc2 => ?_) (fun hc2 => ?_)
 ·simp only [decide_eq_true_eq] at hc2
  refine c_skip (q_then (c_seq (c_block (c_region ?_))))
  refine o_mv rfl rfl ?_
  refine o_p (pu_quo (p := m) (q := (2 : UInt64)) rfl rfl (by first | decide | assumption)) ?_
  refine o_as rfl rfl ?_
  refine o_nil ?_
  refine q_block_normal (q_then ?_)
  refine c_region ?_
  refine o_mv rfl rfl ?_
  refine o_p (p_addb rfl rfl (by omega)) ?_
  refine o_as rfl rfl ?_
  refine o_nil ?_
  refine q_round hK1 ((m / (2 : UInt64)), i + 1) ?_ ?_ ?_ ?_
  ·clear hK1
   exact ⟨by omega, by rw [ho]; exact Hash.half_step n i⟩
  ·(try dsimp only); omega
  ·exact sr (sr (sr (Sub.nil _)))
  ·exact pk [0]
 ·simp only [decide_eq_false_iff_not, Int.not_lt] at hc2
  refine c_exit ?_
  refine q_then_exit (q_then_exit (q_block_exit (q_then ?_)))
  refine c_seq (c_region ?_)
  refine o_mv rfl rfl ?_
  refine o_as rfl rfl ?_
  refine o_nil (q_then (c_ret ?_))
  refine q_end0 (v := .int .u64 (m.toNat : Int)) (rt1 rfl (r_tmp rfl)) (i := 0) rfl ?_
  rw [show m = shrU n many.toNat by rw [ho]; congr 1; omega]

set_option maxHeartbeats 8000000 in
set_option maxRecDepth 100000 in
theorem times_ok (a : UInt64) (b : UInt64) : Fn0 Try.prog 94 [.int .u64 (a.toNat : Int), .int .u64 (b.toNat : Int)] (fun _ => True) (.int .u64 ((a * b).toNat : Int)) := by
 refine fn0 (nt := 20) (F0 := [(0, .int .u64 (a.toNat : Int)), (1, .int .u64 (b.toNat : Int))]) Try.func94 rfl Try.ntmps94 rfl rfl (fun w0 hpre => ?_)
 refine c_seq (c_region ?_)
 refine o_as rfl rfl ?_
 refine o_nil (q_then (c_seq (c_region ?_)))
 refine o_as rfl rfl ?_
 refine o_nil (q_then (c_seq (c_block ?_)))
 refine c_loop (St := UInt64 × UInt64 × UInt64)
  (fun ⟨a1, b1, sm⟩ => [(0, .int .u64 (a1.toNat : Int)), (1, .int .u64 (b1.toNat : Int)), (5, .int .u64 (sm.toNat : Int))])
  (fun ⟨a1, b1, sm⟩ => [base w0])
  (fun ⟨a1, b1, sm⟩ => sm + a1 * b1 = a * b)
  (fun ⟨a1, b1, sm⟩ => b1.toNat)
  (a, b, (0 : UInt64)) ?_ (sr (sr (sr (Sub.nil _)))) (fun _ hw => hw) ?_
 ·simp
 rintro ⟨a1, b1, sm⟩ hI K hK1
 show SC _ _ Try.prog 20 w0 _ _ [(0, .int .u64 (a1.toNat : Int)), (1, .int .u64 (b1.toNat : Int)), (5, .int .u64 (sm.toNat : Int))] [base w0]
 refine c_seq (c_seq (c_region ?_))
 refine o_mv rfl rfl ?_
 refine o_p (pu_gt (p := b1) (q := (0 : UInt64)) rfl rfl) ?_
 refine o_nil (q_then ?_)
 refine c_cond rfl (fun hc2 => ?_) (fun hc2 => ?_)
 ·simp only [decide_eq_true_eq] at hc2
  refine c_skip (q_then (c_block (c_seq (c_seq (c_region ?_)))))
  refine o_mv rfl rfl ?_
  refine o_p (pu_rem (p := b1) (q := (2 : UInt64)) rfl rfl (by first | decide | assumption)) ?_
  refine o_p (pu_eq (p := (b1 % (2 : UInt64))) (q := (1 : UInt64)) rfl rfl) ?_
  refine o_nil (q_then ?_)
  refine c_cond rfl (fun hc3 => ?_) (fun hc3 => ?_)
  ·simp only [beq_iff_eq] at hc3
   refine c_region ?_
   refine o_mv rfl rfl ?_
   refine o_mv rfl rfl ?_
   refine o_p (pu_add (p := sm) (q := a1) rfl rfl) ?_
   refine o_as rfl rfl ?_
   refine o_nil (q_then (c_seq (c_region ?_)))
   refine o_mv rfl rfl ?_
   refine o_mv rfl rfl ?_
   refine o_p (pu_add (p := a1) (q := a1) rfl rfl) ?_
   refine o_as rfl rfl ?_
   refine o_nil (q_then (c_region ?_))
   refine o_mv rfl rfl ?_
   refine o_p (pu_quo (p := b1) (q := (2 : UInt64)) rfl rfl (by first | decide | assumption)) ?_
   refine o_as rfl rfl ?_
   refine o_nil ?_
   refine q_block_normal ?_
   refine q_round hK1 ((a1 + a1), (b1 / (2 : UInt64)), (sm + a1)) ?_ ?_ ?_ ?_
   ·clear hK1
    first | exact Hash.times_odd hI (by assumption) | exact Hash.times_even hI (by assumption)
   ·exact Hash.half_less (by assumption)
   ·exact sr (sr (sr (Sub.nil _)))
   ·exact pk [0]
  ·simp only [beq_eq_false_iff_ne, ne_eq] at hc3
   refine c_skip (q_then (c_seq (c_region ?_)))
   refine o_mv rfl rfl ?_
   refine o_mv rfl rfl ?_
   refine o_p (pu_add (p := a1) (q := a1) rfl rfl) ?_
   refine o_as rfl rfl ?_
   refine o_nil (q_then (c_region ?_))
   refine o_mv rfl rfl ?_
   refine o_p (pu_quo (p := b1) (q := (2 : UInt64)) rfl rfl (by first | decide | assumption)) ?_
   refine o_as rfl rfl ?_
   refine o_nil ?_
   refine q_block_normal ?_
   refine q_round hK1 ((a1 + a1), (b1 / (2 : UInt64)), sm) ?_ ?_ ?_ ?_
   ·clear hK1
    first | exact Hash.times_odd hI (by assumption) | exact Hash.times_even hI (by assumption)
   ·exact Hash.half_less (by assumption)
   ·exact sr (sr (sr (Sub.nil _)))
   ·exact pk [0]
 ·simp only [decide_eq_false_iff_not, Int.not_lt] at hc2
  refine c_exit ?_
  refine q_then_exit (q_then_exit (q_block_exit (q_then ?_)))
  refine c_seq (c_region ?_)
  refine o_mv rfl rfl ?_
  refine o_as rfl rfl ?_
  refine o_nil (q_then (c_ret ?_))
  refine q_end0 (v := .int .u64 (sm.toNat : Int)) (rt1 rfl (r_tmp rfl)) (i := 0) rfl ?_
  rw [Hash.times_end hI (by assumption)]

set_option maxHeartbeats 8000000 in
set_option maxRecDepth 100000 in
theorem mixSum_ok (s : ByteArray) : Fn0 Try.prog 64 [.string s] (fun w => s.size ≤ 9223372036854775807) (.int .u64 ((Hash.raw s).toNat : Int)) := by
 refine fn0 (nt := 19) (F0 := [(0, .string s)]) Try.func64 rfl Try.ntmps64 rfl rfl (fun w0 hpre => ?_)
 have hs := hpre
 refine c_seq (c_region ?_)
 refine o_as rfl rfl ?_
 refine o_nil (q_then (c_seq (c_region ?_)))
 refine o_as rfl rfl ?_
 refine o_nil (q_then (c_seq (c_seq (c_region ?_))))
 refine o_as rfl rfl ?_
 refine o_nil (q_then (c_block ?_))
 refine c_loop (St := UInt64 × Nat)
  (fun ⟨n, i⟩ => [(0, .string s), (3, .int .u64 (n.toNat : Int)), (4, Vi (i : Int))])
  (fun ⟨n, i⟩ => [base w0])
  (fun ⟨n, i⟩ => i ≤ s.size ∧ n = Hash.rawTo s i)
  (fun ⟨n, i⟩ => s.size - i)
  ((14695981039346656037 : UInt64), 0) ?_ (sr (sr (sr (Sub.nil _)))) (fun _ hw => hw) ?_
 ·exact ⟨Nat.zero_le _, rfl⟩
 rintro ⟨n, i⟩ hI K hK1
 obtain ⟨hk, ho⟩ := hI
 show SC _ _ Try.prog 19 w0 _ _ [(0, .string s), (3, .int .u64 (n.toNat : Int)), (4, Vi (i : Int))] [base w0]
 refine c_seq (c_seq (c_region ?_))
 refine o_mv rfl rfl ?_
 refine o_mv rfl rfl ?_
 refine o_p (p_len_string rfl rfl Try.underlying9) ?_
 refine o_p (p_lt rfl rfl) ?_
 refine o_nil (q_then ?_)
 refine c_cond rfl (fun hc2 => ?_) (fun hc2 => ?_)
 ·simp only [decide_eq_true_eq] at hc2
  refine c_skip (q_then (c_seq (c_block (c_region ?_))))
  refine o_mv rfl rfl ?_
  refine o_mv rfl rfl ?_
  refine o_mv rfl rfl ?_
  refine o_p (p_indexStr (z := (i : Int)) (i := i) rfl rfl Try.underlying9 (by omega) (by omega)) ?_
  refine o_p (pu_convB (c := (byteAt s i)) rfl Try.underlying5 Try.underlying59) ?_
  refine o_p (pu_xor (p := n) (q := (byteAt s i).toUInt64) rfl rfl) ?_
  refine o_call0 (v := .int .u64 (((n ^^^ (byteAt s i).toUInt64) * (1099511628211 : UInt64)).toNat : Int)) rfl (times_ok (n ^^^ (byteAt s i).toUInt64) (1099511628211 : UInt64)) hf94 (fun _ _ => trivial) rfl ?_
  refine o_as rfl rfl ?_
  refine o_nil ?_
  refine q_block_normal (q_then ?_)
  refine c_region ?_
  refine o_mv rfl rfl ?_
  refine o_p (p_addb rfl rfl (by omega)) ?_
  refine o_as rfl rfl ?_
  refine o_nil ?_
  refine q_round hK1 (((n ^^^ (byteAt s i).toUInt64) * (1099511628211 : UInt64)), i + 1) ?_ ?_ ?_ ?_
  ·clear hK1
   exact ⟨by omega, by rw [ho]; rfl⟩
  ·(try dsimp only); omega
  ·exact sr (sr (sr (Sub.nil _)))
  ·exact pk [0]
 ·simp only [decide_eq_false_iff_not, Int.not_lt] at hc2
  refine c_exit ?_
  refine q_then_exit (q_then_exit (q_block_exit (q_then ?_)))
  refine c_seq (c_region ?_)
  refine o_mv rfl rfl ?_
  refine o_as rfl rfl ?_
  refine o_nil (q_then (c_ret ?_))
  refine q_end0 (v := .int .u64 (n.toNat : Int)) (rt1 rfl (r_tmp rfl)) (i := 0) rfl ?_
  rw [show n = Hash.raw s by unfold Hash.raw; rw [ho]; congr 1; omega]

set_option maxHeartbeats 8000000 in
set_option maxRecDepth 100000 in
theorem mixOf_ok (n : UInt64) : Fn0 Try.prog 63 [.int .u64 (n.toNat : Int)] (fun _ => True) (.int .u64 ((Hash.mix n).toNat : Int)) := by
 refine fn0 (nt := 17) (F0 := [(0, .int .u64 (n.toNat : Int))]) Try.func63 rfl Try.ntmps63 rfl rfl (fun w0 hpre => ?_)
 refine c_seq (c_region ?_)
 refine o_as rfl rfl ?_
 refine o_nil (q_then (c_seq (c_region ?_)))
 refine o_mv rfl rfl ?_
 refine o_mv rfl rfl ?_
 refine o_call0 (v := .int .u64 ((shrU n (30 : Int).toNat).toNat : Int)) rfl (half_ok n 30 (by first | assumption | omega | decide)) hf93 (fun _ _ => trivial) rfl ?_
 refine o_p (pu_xor (p := n) (q := (shrU n (30 : Int).toNat)) rfl rfl) ?_
 refine o_call0 (v := .int .u64 (((n ^^^ (shrU n (30 : Int).toNat)) * (13787848793156543929 : UInt64)).toNat : Int)) rfl (times_ok (n ^^^ (shrU n (30 : Int).toNat)) (13787848793156543929 : UInt64)) hf94 (fun _ _ => trivial) rfl ?_
 refine o_as rfl rfl ?_
 refine o_nil (q_then (c_seq (c_region ?_)))
 refine o_mv rfl rfl ?_
 refine o_mv rfl rfl ?_
 refine o_call0 (v := .int .u64 ((shrU ((n ^^^ (shrU n (30 : Int).toNat)) * (13787848793156543929 : UInt64)) (27 : Int).toNat).toNat : Int)) rfl (half_ok ((n ^^^ (shrU n (30 : Int).toNat)) * (13787848793156543929 : UInt64)) 27 (by first | assumption | omega | decide)) hf93 (fun _ _ => trivial) rfl ?_
 refine o_p (pu_xor (p := ((n ^^^ (shrU n (30 : Int).toNat)) * (13787848793156543929 : UInt64))) (q := (shrU ((n ^^^ (shrU n (30 : Int).toNat)) * (13787848793156543929 : UInt64)) (27 : Int).toNat)) rfl rfl) ?_
 refine o_call0 (v := .int .u64 (((((n ^^^ (shrU n (30 : Int).toNat)) * (13787848793156543929 : UInt64)) ^^^ (shrU ((n ^^^ (shrU n (30 : Int).toNat)) * (13787848793156543929 : UInt64)) (27 : Int).toNat)) * (10723151780598845931 : UInt64)).toNat : Int)) rfl (times_ok (((n ^^^ (shrU n (30 : Int).toNat)) * (13787848793156543929 : UInt64)) ^^^ (shrU ((n ^^^ (shrU n (30 : Int).toNat)) * (13787848793156543929 : UInt64)) (27 : Int).toNat)) (10723151780598845931 : UInt64)) hf94 (fun _ _ => trivial) rfl ?_
 refine o_as rfl rfl ?_
 refine o_nil (q_then (c_seq (c_region ?_)))
 refine o_mv rfl rfl ?_
 refine o_mv rfl rfl ?_
 refine o_call0 (v := .int .u64 ((shrU ((((n ^^^ (shrU n (30 : Int).toNat)) * (13787848793156543929 : UInt64)) ^^^ (shrU ((n ^^^ (shrU n (30 : Int).toNat)) * (13787848793156543929 : UInt64)) (27 : Int).toNat)) * (10723151780598845931 : UInt64)) (31 : Int).toNat).toNat : Int)) rfl (half_ok ((((n ^^^ (shrU n (30 : Int).toNat)) * (13787848793156543929 : UInt64)) ^^^ (shrU ((n ^^^ (shrU n (30 : Int).toNat)) * (13787848793156543929 : UInt64)) (27 : Int).toNat)) * (10723151780598845931 : UInt64)) 31 (by first | assumption | omega | decide)) hf93 (fun _ _ => trivial) rfl ?_
 refine o_p (pu_xor (p := ((((n ^^^ (shrU n (30 : Int).toNat)) * (13787848793156543929 : UInt64)) ^^^ (shrU ((n ^^^ (shrU n (30 : Int).toNat)) * (13787848793156543929 : UInt64)) (27 : Int).toNat)) * (10723151780598845931 : UInt64))) (q := (shrU ((((n ^^^ (shrU n (30 : Int).toNat)) * (13787848793156543929 : UInt64)) ^^^ (shrU ((n ^^^ (shrU n (30 : Int).toNat)) * (13787848793156543929 : UInt64)) (27 : Int).toNat)) * (10723151780598845931 : UInt64)) (31 : Int).toNat)) rfl rfl) ?_
 refine o_as rfl rfl ?_
 refine o_nil (q_then (c_ret ?_))
 refine q_end0 (v := .int .u64 ((((((n ^^^ (shrU n (30 : Int).toNat)) * (13787848793156543929 : UInt64)) ^^^ (shrU ((n ^^^ (shrU n (30 : Int).toNat)) * (13787848793156543929 : UInt64)) (27 : Int).toNat)) * (10723151780598845931 : UInt64)) ^^^ (shrU ((((n ^^^ (shrU n (30 : Int).toNat)) * (13787848793156543929 : UInt64)) ^^^ (shrU ((n ^^^ (shrU n (30 : Int).toNat)) * (13787848793156543929 : UInt64)) (27 : Int).toNat)) * (10723151780598845931 : UInt64)) (31 : Int).toNat)).toNat : Int)) (rt1 rfl (r_tmp rfl)) (i := 0) rfl ?_
 rfl

set_option maxHeartbeats 8000000 in
set_option maxRecDepth 100000 in
theorem mixFold_ok (n : UInt64) (most : Int) : Fn0 Try.prog 62 [.int .u64 (n.toNat : Int), Vi most] (fun _ => True) (Vi (Hash.rawFold n most)) := by
 refine fn0 (nt := 14) (F0 := [(0, .int .u64 (n.toNat : Int)), (1, Vi most)]) Try.func62 rfl Try.ntmps62 rfl rfl (fun w0 hpre => ?_)
 refine c_seq (c_region ?_)
 refine o_as rfl rfl ?_
 refine o_nil (q_then (c_seq (c_region ?_)))
 refine o_mv rfl rfl ?_
 refine o_call0 (v := .int .u64 ((shrU n (32 : Int).toNat).toNat : Int)) rfl (half_ok n 32 (by first | assumption | omega | decide)) hf93 (fun _ _ => trivial) rfl ?_
 refine o_as rfl rfl ?_
 refine o_nil (q_then (c_seq (c_region ?_)))
 refine o_mv rfl rfl ?_
 refine o_mv rfl rfl ?_
 refine o_p (pu_conv (z := most) rfl Try.underlying3 Try.underlying59) ?_
 refine o_call0 (v := .int .u64 (((shrU n (32 : Int).toNat) * (toU most)).toNat : Int)) rfl (times_ok (shrU n (32 : Int).toNat) (toU most)) hf94 (fun _ _ => trivial) rfl ?_
 refine o_call0 (v := .int .u64 ((shrU ((shrU n (32 : Int).toNat) * (toU most)) (32 : Int).toNat).toNat : Int)) rfl (half_ok ((shrU n (32 : Int).toNat) * (toU most)) 32 (by first | assumption | omega | decide)) hf93 (fun _ _ => trivial) rfl ?_
 refine o_p (p_conv (z := ((shrU ((shrU n (32 : Int).toNat) * (toU most)) (32 : Int).toNat).toNat : Int)) rfl Try.underlying59 Try.underlying3) ?_
 refine o_as rfl rfl ?_
 refine o_nil (q_then (c_ret ?_))
 refine q_end0 (v := Vi (IntKind.i64.wrap ((shrU ((shrU n (32 : Int).toNat) * (toU most)) (32 : Int).toNat).toNat : Int))) (rt1 rfl (r_tmp rfl)) (i := 0) rfl ?_
 rfl

set_option maxHeartbeats 8000000 in
set_option maxRecDepth 100000 in
theorem between_ok (n : Int) (a : Int) (b : Int) : Fn0 Try.prog 61 [Vi n, Vi a, Vi b] (fun _ => True) (.bool (Ref.between n a b)) := by
 refine fn0 (nt := 15) (F0 := [(0, Vi n), (1, Vi a), (2, Vi b)]) Try.func61 rfl Try.ntmps61 rfl rfl (fun w0 hpre => ?_)
 refine c_seq (c_region ?_)
 refine o_as rfl rfl ?_
 refine o_nil (q_then (c_seq (c_region ?_)))
 refine o_mv rfl rfl ?_
 refine o_mv rfl rfl ?_
 refine o_p (p_ge rfl rfl) ?_
 refine o_mv rfl rfl ?_
 refine o_and (p := 14) 4 (decide (n ≤ b)) ?_ ?_ ?_
 ·intro hb1 hk
  simp only [decide_eq_true_eq] at hb1
  refine o_unguard 10 rfl rfl ?_
  refine o_mv rfl rfl ?_
  refine o_unguard 10 rfl rfl ?_
  refine o_mv rfl rfl ?_
  refine o_unguard 10 rfl rfl ?_
  refine o_p (p_le rfl rfl) ?_
  refine o_pt rfl rfl rfl ?_
  exact o_sub (sr (Sub.skip rfl (Sub.skip rfl (Sub.skip rfl (Sub.skip rfl (Sub.skip rfl (Sub.refl _))))))) hk
 ·intro hb1 hk
  refine o_guard_no rfl 10 rfl rfl rfl rfl rfl ?_
  refine o_guard_no rfl 10 rfl rfl rfl rfl rfl ?_
  refine o_guard_no rfl 10 rfl rfl rfl rfl rfl ?_
  refine o_pf rfl rfl rfl ?_
  exact o_sub (sr (Sub.skip rfl (Sub.skip rfl (Sub.skip rfl (Sub.skip rfl (Sub.skip rfl (Sub.refl _))))))) hk
 refine o_as rfl rfl ?_
 refine o_nil (q_then (c_ret ?_))
 have hr0 : ((decide (a ≤ n) && decide (n ≤ b)) : Bool) = (Ref.between n a b) := by
  rfl
 refine q_end0 (v := .bool (decide (a ≤ n) && decide (n ≤ b))) (rt1 rfl (r_tmp rfl)) (i := 0) rfl ?_
 exact (by have hcc := congrArg (fun (y0 : Bool) => (.bool y0 : Value)) hr0; exact hcc)

set_option maxHeartbeats 8000000 in
set_option maxRecDepth 100000 in
theorem homeOf_ok (key : ByteArray) (slots : Int) (hy1 : key.size ≤ 40) : Fn0 Try.prog 21 [.string key, Vi slots] (fun _ => True) (Vi (Tab.home key slots)) := by
 refine fn0 (nt := 10) (F0 := [(0, .string key), (1, Vi slots)]) Try.func21 rfl Try.ntmps21 rfl rfl (fun w0 hpre => ?_)
 refine c_seq (c_region ?_)
 refine o_as rfl rfl ?_
 refine o_nil (q_then (c_seq (c_region ?_)))
 refine o_mv rfl rfl ?_
 refine o_call0 (v := .int .u64 ((Hash.raw key).toNat : Int)) rfl (mixSum_ok key) hf64 (fun w hw => (by first | assumption | omega | decide | (rw [ByteArray.size_append]; omega) | simp)) rfl ?_
 refine o_call0 (v := .int .u64 ((Hash.mix (Hash.raw key)).toNat : Int)) rfl (mixOf_ok (Hash.raw key)) hf63 (fun _ _ => trivial) rfl ?_
 refine o_mv rfl rfl ?_
 refine o_call0 (v := Vi (Hash.rawFold (Hash.mix (Hash.raw key)) slots)) rfl (mixFold_ok (Hash.mix (Hash.raw key)) slots) hf62 (fun _ _ => trivial) rfl ?_
 refine o_as rfl rfl ?_
 refine o_nil (q_then (c_ret ?_))
 have hr0 : ((Hash.rawFold (Hash.mix (Hash.raw key)) slots) : Int) = (Tab.home key slots) := by
  rfl
 refine q_end0 (v := Vi (Hash.rawFold (Hash.mix (Hash.raw key)) slots)) (rt1 rfl (r_tmp rfl)) (i := 0) rfl ?_
 exact (by have hcc := congrArg (fun (y0 : Int) => (.int .i64 y0 : Value)) hr0; exact hcc)

set_option maxHeartbeats 8000000 in
set_option maxRecDepth 100000 in
theorem slotOf_ok (tt : List DSlot) (att : Option Addr) (ctt : Nat) (key : ByteArray) : Fn0 Try.prog 20 [.slice att tt.length ctt, .string key] (fun w => Rd tSlot w att ctt tt) (Vi (Tab.slotOf tt key)) := by
 refine fn0 (nt := 27) (F0 := [(0, .slice att tt.length ctt), (1, .string key)]) Try.func20 rfl Try.ntmps20 rfl rfl (fun w0 hpre => ?_)
 have htt := hpre
 have hlhtt := htt.2.1
 refine c_seq (c_region ?_)
 refine o_as rfl rfl ?_
 refine o_nil (q_then (c_seq (c_seq (c_region ?_))))
 refine o_as rfl rfl ?_
 refine o_nil (q_then (c_block ?_))
 refine c_loop (St := Nat)
  (fun i => [(0, .slice att tt.length ctt), (1, .string key), (5, Vi (i : Int))])
  (fun i => [base w0])
  (fun i => Tab.SI tt key i)
  (fun i => tt.length - i)
  0 ?_ (sr (sr (sr (Sub.nil _)))) (fun _ hw => hw) ?_
 ·exact Tab.SI.start tt key
 rintro i hI K hK1
 have hle := hI.le
 show SC _ _ Try.prog 27 w0 _ _ [(0, .slice att tt.length ctt), (1, .string key), (5, Vi (i : Int))] [base w0]
 refine c_seq (c_seq (c_region ?_))
 refine o_mv rfl rfl ?_
 refine o_mv rfl rfl ?_
 refine o_p (p_len_slice rfl rfl Try.underlying22) ?_
 refine o_p (p_lt rfl rfl) ?_
 refine o_nil (q_then ?_)
 refine c_cond rfl (fun hc2 => ?_) (fun hc2 => ?_)
 ·simp only [decide_eq_true_eq] at hc2
  refine c_skip (q_then (c_seq (c_block (c_seq (c_region ?_)))))
  refine o_mv rfl rfl ?_
  refine o_mv rfl rfl ?_
  refine o_p (p_indexAddr (L := tt) (T := tSlot) (i := (i : Int)) rfl rfl (rd_base (i := 0) rfl htt) Try.underlying22 sz33 (by omega) (by omega)) ?_
  refine o_p (p_fieldAddrE rfl fo33_0) ?_
  refine o_p (p_loadF (i := i) (j := 0) (T := tSlot) (L := tt) (v := .bool ((tt.getD i default).used)) rfl (rd_base (i := 0) rfl htt) (by first | assumption | omega) sh4 (congrArg (fun z => (tSlot.enc z)[0]?) (getd_at (by first | assumption | omega) default))) ?_
  refine o_mv rfl rfl ?_
  refine o_and (p := 25) 8 (decide ((tt.getD i default).key = key)) ?_ ?_ ?_
  ·intro hb3 hk
   skip
   refine o_unguard 17 rfl rfl ?_
   refine o_mv rfl rfl ?_
   refine o_unguard 17 rfl rfl ?_
   refine o_mv rfl rfl ?_
   refine o_unguard 17 rfl rfl ?_
   refine o_p (p_indexAddr (L := tt) (T := tSlot) (i := (i : Int)) rfl rfl (rd_base (i := 0) rfl htt) Try.underlying22 sz33 (by omega) (by omega)) ?_
   refine o_unguard 17 rfl rfl ?_
   refine o_p (p_fieldAddrE rfl fo33_1) ?_
   refine o_unguard 17 rfl rfl ?_
   refine o_p (p_loadF (i := i) (j := 1) (T := tSlot) (L := tt) (v := .string ((tt.getD i default).key)) rfl (rd_base (i := 0) rfl htt) (by first | assumption | omega) sh9 (congrArg (fun z => (tSlot.enc z)[1]?) (getd_at (by first | assumption | omega) default))) ?_
   refine o_unguard 17 rfl rfl ?_
   refine o_mv rfl rfl ?_
   refine o_unguard 17 rfl rfl ?_
   refine o_p (p_eqStr (s := (tt.getD i default).key) (t := key) rfl rfl) ?_
   refine o_pt rfl rfl rfl ?_
   exact o_sub (sr (Sub.skip rfl (Sub.skip rfl (Sub.skip rfl (Sub.skip rfl (Sub.skip rfl (Sub.skip rfl (Sub.skip rfl (Sub.skip rfl (Sub.skip rfl (Sub.refl _))))))))))) hk
  ·intro hb3 hk
   refine o_guard_no rfl 17 rfl rfl rfl rfl rfl ?_
   refine o_guard_no rfl 17 rfl rfl rfl rfl rfl ?_
   refine o_guard_no rfl 17 rfl rfl rfl rfl rfl ?_
   refine o_guard_no rfl 17 rfl rfl rfl rfl rfl ?_
   refine o_guard_no rfl 17 rfl rfl rfl rfl rfl ?_
   refine o_guard_no rfl 17 rfl rfl rfl rfl rfl ?_
   refine o_guard_no rfl 17 rfl rfl rfl rfl rfl ?_
   refine o_pf rfl rfl rfl ?_
   exact o_sub (sr (Sub.skip rfl (Sub.skip rfl (Sub.skip rfl (Sub.skip rfl (Sub.skip rfl (Sub.skip rfl (Sub.skip rfl (Sub.skip rfl (Sub.skip rfl (Sub.refl _))))))))))) hk
  refine o_nil (q_then ?_)
  refine c_cond rfl (fun hc4 => ?_) (fun hc4 => ?_)
  ·simp only [Bool.and_eq_true, decide_eq_true_eq] at hc4
   have hu := hc4
   refine c_seq (c_region ?_)
   refine o_mv rfl rfl ?_
   refine o_as rfl rfl ?_
   refine o_nil (q_then (c_ret ?_))
   refine q_block_ret (q_then_ret (q_then_ret (q_block_ret (q_then_ret ?_))))
   have hr0 : ((i : Int) : Int) = (Tab.slotOf tt key) := by
    first | exact hI.here (by omega) hu | exact hI.done (by omega)
   refine q_end0 (v := Vi (i : Int)) (rt1 rfl (r_tmp rfl)) (i := 0) rfl ?_
   exact (by have hcc := congrArg (fun (y0 : Int) => (.int .i64 y0 : Value)) hr0; exact hcc)
  ·simp only [Bool.and_eq_false_iff, decide_eq_false_iff_not] at hc4
   have hu := hc4
   refine c_skip ?_
   refine q_block_normal (q_then ?_)
   refine c_region ?_
   refine o_mv rfl rfl ?_
   refine o_p (p_addb rfl rfl (by omega)) ?_
   refine o_as rfl rfl ?_
   refine o_nil ?_
   refine q_round hK1 (i + 1) ?_ ?_ ?_ ?_
   ·clear hK1
    exact hI.next2 (by omega) hu
   ·(try dsimp only); omega
   ·exact sr (sr (sr (Sub.nil _)))
   ·exact pk [0]
 ·simp only [decide_eq_false_iff_not, Int.not_lt] at hc2
  refine c_exit ?_
  refine q_then_exit (q_then_exit (q_block_exit (q_then ?_)))
  refine c_seq (c_region ?_)
  refine o_as rfl rfl ?_
  refine o_nil (q_then (c_ret ?_))
  have hr0 : ((-1) : Int) = (Tab.slotOf tt key) := by
   first | exact hI.here (by omega) hu | exact hI.done (by omega)
  refine q_end0 (v := Vi (-1)) (rt1 rfl (r_tmp rfl)) (i := 0) rfl ?_
  exact (by have hcc := congrArg (fun (y0 : Int) => (.int .i64 y0 : Value)) hr0; exact hcc)

set_option maxHeartbeats 8000000 in
set_option maxRecDepth 100000 in
theorem tablePut_ok (tt : List DSlot) (att : Option Addr) (ctt : Nat) (key : ByteArray) (value : Int) (hy1 : Tab.Ok tt ∧ key.size ≤ 40) : FnM Try.prog 23 [.slice att tt.length ctt, .string key, Vi value] (fun w => Rd tSlot w att ctt tt) (Option Addr × Nat) (fun p => .tuple #[.slice p.1 (Tab.putT tt key value).length p.2, .bool (!decide (Tab.putAt tt key < 0))]) (fun p S w => SlO tSlot S w p.1 p.2 (Tab.putT tt key value)) := by
 refine fnM (nt := 61) (F0 := [(0, .slice att tt.length ctt), (1, .string key), (2, Vi value)]) Try.func23 rfl Try.ntmps23 rfl rfl (fun w0 hpre => ?_)
 have htt := hpre
 have hlhtt := htt.2.1
 have hln := hy1.1.len
 have hhb := Tab.home_bd key (n := (tt.length : Int)) (by omega)
 have hpt := Tab.putAt_lt key hln
 have hap : (([] : List DSlot) ++ tt).length = tt.length := rfl
 refine c_seq (c_region ?_)
 refine o_as rfl rfl ?_
 refine o_as rfl rfl ?_
 refine o_nil (q_then (c_seq (c_region ?_)))
 refine o_buildSlice (m := 0) (T := tSlot) (L := []) (vs := []) rfl rfl rfl rfl Try.underlying22 sz33 (by decide) ze33 rfl (by decide) rfl (fun S1 a2 => ?_)
 refine o_mv rfl rfl ?_
 refine o_append (i := 0) (L := []) (M := tt) (T := tSlot) rfl rfl rfl (rd_base (i := 1) rfl htt) Try.underlying22 Try.underlying22 (by intro k h; cases h) el33 (by intro z; simp [tSlot, one1]) (by decide) (by first | omega | (simp only [List.length_cons, List.length_nil]; omega) | (simp only [List.length_append, List.length_cons, List.length_nil, List.length_take, List.length_drop]; omega)) rfl (fun a4 c5 S6 => ?_)
 refine o_as rfl rfl ?_
 refine o_nil (q_then (c_seq (c_region ?_)))
 refine o_mv rfl rfl ?_
 refine o_mv rfl rfl ?_
 refine o_call0 (v := Vi (Tab.slotOf tt key)) rfl (slotOf_ok tt att ctt key) hf20 (fun w hw => (rd_base (i := 1) rfl htt) w hw) rfl ?_
 refine o_as rfl rfl ?_
 refine o_nil (q_then (c_seq (c_region ?_)))
 refine o_mv rfl rfl ?_
 refine o_mv rfl rfl ?_
 refine o_p (p_len_slice rfl rfl Try.underlying22) ?_
 refine o_call0 (v := Vi (Tab.home key (tt.length : Int))) rfl (homeOf_ok key (tt.length : Int) (by first | assumption | omega | exact Tab.key_le hz (by omega) | exact hy1.2)) hf21 (fun _ _ => trivial) rfl ?_
 refine o_as rfl rfl ?_
 refine o_nil (q_then (c_seq (c_seq (c_region ?_))))
 refine o_mv rfl rfl ?_
 refine o_p (p_len_slice rfl rfl Try.underlying22) ?_
 refine o_p (p_subb rfl rfl (by omega)) ?_
 refine o_as rfl rfl ?_
 refine o_nil (q_then (c_block ?_))
 refine c_loop (St := Int × Int)
  (fun ⟨at_, i⟩ => [(0, .slice att tt.length ctt), (1, .string key), (2, Vi value), (8, .slice a4 ([] ++ tt).length c5), (9, Vi at_), (10, Vi (Tab.home key (tt.length : Int))), (11, Vi i)])
  (fun ⟨at_, i⟩ => [own tSlot S6 a4 c5 ([] ++ tt), base w0])
  (fun ⟨at_, i⟩ => Tab.BI tt key at_ i)
  (fun ⟨at_, i⟩ => (i + 1).toNat)
  ((Tab.slotOf tt key), ((tt.length : Int) - 1)) ?_ (sr (sr (sr (sr (sr (sr (sr (Sub.nil _)))))))) (fun _ hw => hw) ?_
 ·exact Tab.BI.start tt key hln.1
 rintro ⟨at_, i⟩ hI K hK7
 have hlo := hI.lo
 have hhi := hI.hi
 show SC _ _ Try.prog 61 w0 _ _ [(0, .slice att tt.length ctt), (1, .string key), (2, Vi value), (8, .slice a4 ([] ++ tt).length c5), (9, Vi at_), (10, Vi (Tab.home key (tt.length : Int))), (11, Vi i)] [own tSlot S6 a4 c5 ([] ++ tt), base w0]
 refine c_seq (c_seq (c_region ?_))
 refine o_mv rfl rfl ?_
 refine o_p (p_ge rfl rfl) ?_
 refine o_mv rfl rfl ?_
 refine o_and (p := 32) 5 (decide ((Tab.slotOf tt key) < 0)) ?_ ?_ ?_
 ·intro hb8 hk
  simp only [decide_eq_true_eq] at hb8
  refine o_unguard 27 rfl rfl ?_
  refine o_mv rfl rfl ?_
  refine o_unguard 27 rfl rfl ?_
  refine o_mv rfl rfl ?_
  refine o_unguard 27 rfl rfl ?_
  refine o_call0 (v := Vi (Tab.slotOf tt key)) rfl (slotOf_ok tt att ctt key) hf20 (fun w hw => (rd_base (i := 1) rfl htt) w hw) rfl ?_
  refine o_unguard 27 rfl rfl ?_
  refine o_p (p_lt rfl rfl) ?_
  refine o_pt rfl rfl rfl ?_
  exact o_sub (sr (Sub.skip rfl (Sub.skip rfl (Sub.skip rfl (Sub.skip rfl (Sub.skip rfl (Sub.skip rfl (Sub.refl _)))))))) hk
 ·intro hb8 hk
  refine o_guard_no rfl 27 rfl rfl rfl rfl rfl ?_
  refine o_guard_no rfl 27 rfl rfl rfl rfl rfl ?_
  refine o_guard_no rfl 27 rfl rfl rfl rfl rfl ?_
  refine o_guard_no rfl 27 rfl rfl rfl rfl rfl ?_
  refine o_pf rfl rfl rfl ?_
  exact o_sub (sr (Sub.skip rfl (Sub.skip rfl (Sub.skip rfl (Sub.skip rfl (Sub.skip rfl (Sub.skip rfl (Sub.refl _)))))))) hk
 refine o_nil (q_then ?_)
 refine c_cond rfl (fun hc9 => ?_) (fun hc9 => ?_)
 ·simp only [Bool.and_eq_true, decide_eq_true_eq] at hc9
  have hgo := hc9
  have hpb := Tab.tmod_bd (h := Tab.home key (tt.length : Int)) (i := i) (n := (tt.length : Int)) (by omega) (by omega) (by omega)
  refine c_skip (q_then (c_seq (c_block (c_seq (c_region ?_)))))
  refine o_mv rfl rfl ?_
  refine o_mv rfl rfl ?_
  refine o_mv rfl rfl ?_
  refine o_p (p_addb rfl rfl (by omega)) ?_
  refine o_mv rfl rfl ?_
  refine o_p (p_len_slice rfl rfl Try.underlying22) ?_
  refine o_p (p_rem (p := ((Tab.home key (tt.length : Int)) + i)) (q := (tt.length : Int)) rfl rfl (by omega)) ?_
  refine o_p (p_indexAddr (L := tt) (T := tSlot) (i := (((Tab.home key (tt.length : Int)) + i).tmod (tt.length : Int))) rfl rfl (rd_base (i := 1) rfl htt) Try.underlying22 sz33 (by omega) (by omega)) ?_
  refine o_p (p_fieldAddrE rfl fo33_0) ?_
  refine o_p (p_loadF (i := (((Tab.home key (tt.length : Int)) + i).tmod (tt.length : Int)).toNat) (j := 0) (T := tSlot) (L := tt) (v := .bool ((tt.getD ((((Tab.home key (tt.length : Int)) + i).tmod (tt.length : Int)).toNat) default).used)) rfl (rd_base (i := 1) rfl htt) (by first | assumption | omega) sh4 (congrArg (fun z => (tSlot.enc z)[0]?) (getd_at (by first | assumption | omega) default))) ?_
  refine o_p (p_not (b := (tt.getD ((((Tab.home key (tt.length : Int)) + i).tmod (tt.length : Int)).toNat) default).used) rfl) ?_
  refine o_nil (q_then ?_)
  refine c_cond rfl (fun hc10 => ?_) (fun hc10 => ?_)
  ·simp only [Bool.not_eq_true'] at hc10
   have hu := hc10
   refine c_region ?_
   refine o_mv rfl rfl ?_
   refine o_mv rfl rfl ?_
   refine o_p (p_addb rfl rfl (by omega)) ?_
   refine o_mv rfl rfl ?_
   refine o_p (p_len_slice rfl rfl Try.underlying22) ?_
   refine o_p (p_rem (p := ((Tab.home key (tt.length : Int)) + i)) (q := (tt.length : Int)) rfl rfl (by omega)) ?_
   refine o_as rfl rfl ?_
   refine o_nil ?_
   refine q_block_normal (q_then ?_)
   refine c_region ?_
   refine o_mv rfl rfl ?_
   refine o_p (p_subb rfl rfl (by omega)) ?_
   refine o_as rfl rfl ?_
   refine o_nil ?_
   refine q_round hK7 ((((Tab.home key (tt.length : Int)) + i).tmod (tt.length : Int)), (i - 1)) ?_ ?_ ?_ ?_
   ·clear hK7
    first | exact hI.free2 hy1.1 (by omega) (by omega) hu | exact hI.used2 hy1.1 (by omega) (by omega) hu
   ·(try dsimp only); omega
   ·exact sr (sr (sr (sr (sr (sr (sr (Sub.nil _)))))))
   ·exact pk [0, 1]
  ·simp only [Bool.not_eq_false'] at hc10
   have hu := hc10
   refine c_skip ?_
   refine q_block_normal (q_then ?_)
   refine c_region ?_
   refine o_mv rfl rfl ?_
   refine o_p (p_subb rfl rfl (by omega)) ?_
   refine o_as rfl rfl ?_
   refine o_nil ?_
   refine q_round hK7 (at_, (i - 1)) ?_ ?_ ?_ ?_
   ·clear hK7
    first | exact hI.free2 hy1.1 (by omega) (by omega) hu | exact hI.used2 hy1.1 (by omega) (by omega) hu
   ·(try dsimp only); omega
   ·exact sr (sr (sr (sr (sr (sr (sr (Sub.nil _)))))))
   ·exact pk [0, 1]
 ·simp only [Bool.and_eq_false_iff, decide_eq_false_iff_not, Int.not_le, Int.not_lt] at hc9
  have hgo := hc9
  have hat := hI.done hy1.1 (by omega)
  refine c_exit ?_
  refine q_then_exit (q_then_exit (q_block_exit (q_then ?_)))
  refine c_seq (c_seq (c_region ?_))
  refine o_mv rfl rfl ?_
  refine o_p (p_lt rfl rfl) ?_
  refine o_nil (q_then ?_)
  refine c_cond rfl (fun hc11 => ?_) (fun hc11 => ?_)
  ·simp only [decide_eq_true_eq] at hc11
   refine c_seq (c_region ?_)
   refine o_as rfl rfl ?_
   refine o_as rfl rfl ?_
   refine o_nil (q_then (c_ret ?_))
   refine q_then_ret ?_
   have hr0 : ([] : List DSlot) = (Tab.putT tt key value) := by
    first | exact (Tab.pt_no (t := tt) (key := key) (v := value) (by omega)).1.symm | exact (Tab.pt_no (t := tt) (key := key) (v := value) (by omega)).2.symm | (rw [hat]; exact (Tab.pt_yes (t := tt) (key := key) (v := value) (by omega)).1.symm) | exact (Tab.pt_yes (t := tt) (key := key) (v := value) (by omega)).2.symm
   have hr1 : (false : Bool) = (!decide (Tab.putAt tt key < 0)) := by
    first | exact (Tab.pt_no (t := tt) (key := key) (v := value) (by omega)).1.symm | exact (Tab.pt_no (t := tt) (key := key) (v := value) (by omega)).2.symm | (rw [hat]; exact (Tab.pt_yes (t := tt) (key := key) (v := value) (by omega)).1.symm) | exact (Tab.pt_yes (t := tt) (key := key) (v := value) (by omega)).2.symm
   refine q_endM (p := (none, 0)) (fun _ => False) (rt2 rfl (r_tmp rfl) (r_tmp rfl)) (i := 1) rfl ?_ ?_ ?_
   ·exact (by have hcc := congr (congrArg (fun (y0 : List DSlot) (y1 : Bool) => (.tuple #[.slice none y0.length 0, .bool y1] : Value)) hr0) hr1; exact hcc)
   ·intro w hw b hb; exact hb.elim
   ·intro w hw; exact Eq.mp (congrArg (fun y => SlO tSlot _ w none 0 y) hr0) (SlO.nil tSlot w)
  ·simp only [decide_eq_false_iff_not, Int.not_lt] at hc11
   refine c_skip (q_then (c_seq (c_region ?_)))
   refine o_mv rfl rfl ?_
   refine o_mv rfl rfl ?_
   refine o_mv rfl rfl ?_
   refine o_mv rfl rfl ?_
   refine o_p (p_build (cells := [.bool true, .string key, Vi value]) fp33 ze33 rfl rfl) ?_
   refine o_p (p_indexAddr (L := ([] ++ tt)) (T := tSlot) (i := at_) rfl rfl (rd_own (i := 0) rfl) Try.underlying22 sz33 (by omega) (by omega)) ?_
   refine o_storeW (i := 0) (T := tSlot) (idx := at_.toNat) (v := .agg #[.bool true, .string key, Vi value]) (vs := [.bool true, .string key, Vi value]) (z := (⟨true, key, value⟩ : DSlot)) (F' := [(8, .slice a4 (([] ++ tt).set at_.toNat (⟨true, key, value⟩ : DSlot)).length c5)]) rfl rfl rfl rfl (by first | assumption | omega | (simp only [List.length_set]; omega)) sz33 rfl rfl rfl rfl (Sub.cons (by first | (simp only [List.length_set]; rfl) | (show some _ = some _; congr 2; rw [List.length_set]) | (rw [List.length_set]; rfl)) (Sub.nil _)) ?_
   refine o_nil (q_then (c_seq (c_region ?_)))
   refine o_mv rfl rfl ?_
   refine o_as rfl rfl ?_
   refine o_as rfl rfl ?_
   refine o_nil (q_then (c_ret ?_))
   have hr0 : ((([] ++ tt).set at_.toNat (⟨true, key, value⟩ : DSlot)) : List DSlot) = (Tab.putT tt key value) := by
    first | exact (Tab.pt_no (t := tt) (key := key) (v := value) (by omega)).1.symm | exact (Tab.pt_no (t := tt) (key := key) (v := value) (by omega)).2.symm | (rw [hat]; exact (Tab.pt_yes (t := tt) (key := key) (v := value) (by omega)).1.symm) | exact (Tab.pt_yes (t := tt) (key := key) (v := value) (by omega)).2.symm
   have hr1 : (true : Bool) = (!decide (Tab.putAt tt key < 0)) := by
    first | exact (Tab.pt_no (t := tt) (key := key) (v := value) (by omega)).1.symm | exact (Tab.pt_no (t := tt) (key := key) (v := value) (by omega)).2.symm | (rw [hat]; exact (Tab.pt_yes (t := tt) (key := key) (v := value) (by omega)).1.symm) | exact (Tab.pt_yes (t := tt) (key := key) (v := value) (by omega)).2.symm
   refine q_endM (p := (a4, c5)) S6 (rt2 rfl (r_tmp rfl) (r_tmp rfl)) (i := 1) rfl ?_ ?_ ?_
   ·exact (by have hcc := congr (congrArg (fun (y0 : List DSlot) (y1 : Bool) => (.tuple #[.slice a4 y0.length c5, .bool y1] : Value)) hr0) hr1; exact hcc)
   ·exact fun w hw => hw.above (i := 1) (j := 0) (by decide) rfl rfl
   ·intro w hw; exact Eq.mp (congrArg (fun y => SlO tSlot _ w a4 c5 y) hr0) ((hw.at (i := 0) rfl).here)
end Go.Proofs.Ythecfjipaepcgaa

/- Hash tables: the reference of deleting. -/
namespace Go.Sx.Tab
def dist (n x y : Int) : Int := if x ≤ y then y - x else y - x + n
theorem tm_dist {n u v : Int} (hu : 0 ≤ u ∧ u < n) (hv : 0 ≤ v ∧ v < n) : (v - u + n).tmod n = dist n u v := tm hu hv
theorem step_mod {n k : Int} (hk : 0 ≤ k ∧ k < n) : (k + 1).tmod n = if k + 1 = n then 0 else k + 1 := by
  rw [Int.tmod_eq_emod_of_nonneg (by omega)]
  split
  · rename_i e; rw [e]; exact Int.emod_self
  · exact Int.emod_eq_of_lt (by omega) (by omega)
structure KI (n hm at_ ho k : Int) : Prop where
  bd : 0 ≤ k ∧ k < n
  a : dist n hm k ≤ dist n hm at_
  b : dist n hm k ≤ dist n hm ho
section
variable {n hm at_ ho k : Int}
theorem KI.start (h : 0 ≤ hm ∧ hm < n) (ha : 0 ≤ at_ ∧ at_ < n) (hh : 0 ≤ ho ∧ ho < n) : KI n hm at_ ho hm := by
  refine ⟨h, ?_, ?_⟩ <;> unfold dist <;> split <;> split <;> omega
theorem dist_cases (n x y : Int) : (x ≤ y ∧ dist n x y = y - x) ∨ (y < x ∧ dist n x y = y - x + n) := by
  unfold dist; split
  · exact .inl ⟨by assumption, rfl⟩
  · exact .inr ⟨by omega, rfl⟩
theorem KI.next (q : KI n hm at_ ho k) (h : 0 ≤ hm ∧ hm < n) (ha : 0 ≤ at_ ∧ at_ < n) (hh : 0 ≤ ho ∧ ho < n) (h1 : ¬ k = at_) (h2 : ¬ k = ho) : KI n hm at_ ho ((k + 1).tmod n) ∧ dist n hm ((k + 1).tmod n) = dist n hm k + 1 ∧ dist n hm k < dist n hm at_ ∧ 0 ≤ dist n hm k := by
  obtain ⟨b, c, d⟩ := q
  have hs : (k + 1 = n ∧ (k + 1).tmod n = 0) ∨ (k + 1 < n ∧ (k + 1).tmod n = k + 1) := by
    rw [step_mod b]; split
    · exact .inl ⟨by assumption, rfl⟩
    · exact .inr ⟨by omega, rfl⟩
  generalize (k + 1).tmod n = e at *
  have d1 := dist_cases n hm k
  have d2 := dist_cases n hm at_
  have d3 := dist_cases n hm ho
  have d4 := dist_cases n hm e
  generalize dist n hm k = v1 at *
  generalize dist n hm at_ = v2 at *
  generalize dist n hm ho = v3 at *
  have r : (0 ≤ e ∧ e < n) ∧ dist n hm e = v1 + 1 ∧ v1 < v2 ∧ v1 < v3 ∧ 0 ≤ v1 := by
    generalize dist n hm e = v4 at *
    rcases hs with ⟨s1, s2⟩ | ⟨s1, s2⟩ <;> rcases d1 with ⟨x1, x2⟩ | ⟨x1, x2⟩ <;> rcases d2 with ⟨y1, y2⟩ | ⟨y1, y2⟩ <;> rcases d3 with ⟨z1, z2⟩ | ⟨z1, z2⟩ <;> rcases d4 with ⟨w1, w2⟩ | ⟨w1, w2⟩ <;> omega
  exact ⟨⟨r.1, by show dist n hm e ≤ dist n hm at_; rcases dist_cases n hm at_ with ⟨a1, a2⟩ | ⟨a1, a2⟩ <;> rcases d2 with ⟨y1, y2⟩ | ⟨y1, y2⟩ <;> omega, by show dist n hm e ≤ dist n hm ho; rcases dist_cases n hm ho with ⟨a1, a2⟩ | ⟨a1, a2⟩ <;> rcases d3 with ⟨y1, y2⟩ | ⟨y1, y2⟩ <;> omega⟩, r.2.1, r.2.2.1, r.2.2.2.2⟩
theorem KI.at_ho (q : KI n hm at_ ho k) (h : 0 ≤ hm ∧ hm < n) (ha : 0 ≤ at_ ∧ at_ < n) (hh : 0 ≤ ho ∧ ho < n) (hne : ¬ at_ = ho) (e : k = ho) : dist n ho at_ ≤ dist n hm at_ := by
  subst e
  have := q.a
  rcases dist_cases n hm k with ⟨x1, x2⟩ | ⟨x1, x2⟩ <;> rcases dist_cases n hm at_ with ⟨y1, y2⟩ | ⟨y1, y2⟩ <;> rcases dist_cases n k at_ with ⟨z1, z2⟩ | ⟨z1, z2⟩ <;> omega
theorem KI.at_at (q : KI n hm at_ ho k) (h : 0 ≤ hm ∧ hm < n) (ha : 0 ≤ at_ ∧ at_ < n) (hh : 0 ≤ ho ∧ ho < n) (hne : ¬ at_ = ho) (e : k = at_) : dist n hm at_ < dist n ho at_ := by
  subst e
  have := q.b
  rcases dist_cases n hm k with ⟨x1, x2⟩ | ⟨x1, x2⟩ <;> rcases dist_cases n hm ho with ⟨y1, y2⟩ | ⟨y1, y2⟩ <;> rcases dist_cases n ho k with ⟨z1, z2⟩ | ⟨z1, z2⟩ <;> omega
end
theorem place_inj {h n : Int} (hn : 0 ≤ h) {i j : Nat} (hi : (i : Int) < n) (hj : (j : Int) < n) (e : place h n i = place h n j) : i = j := by
  unfold place at e
  rw [Int.tmod_eq_emod_of_nonneg (by omega), Int.tmod_eq_emod_of_nonneg (by omega)] at e
  have e1 : h + (i : Int) = ((h.toNat + i : Nat) : Int) := by omega
  have e2 : h + (j : Int) = ((h.toNat + j : Nat) : Int) := by omega
  have e3 : n = ((n.toNat : Nat) : Int) := by omega
  rw [e1, e2, e3, ← Int.natCast_emod, ← Int.natCast_emod] at e
  exact mod_inj (h := h.toNat) (n := n.toNat) (by omega) (by omega) (Int.ofNat.inj e)
structure RD (t : List DSlot) (key : ByteArray) (ls : List DSlot) (ho : Int) (i : Nat) : Prop where
  le : 1 ≤ i ∧ i ≤ t.length
  len : ls.length = t.length
  hob : 0 ≤ ho ∧ ho < (t.length : Int)
  ks : ∀ j, j < ls.length → (ls.getD j default).key.size ≤ 40
  eq : dropGo (t.length : Int) (slotOf t key) (t.length - i) i ls ho = drop t key
  at_ : ∃ j, j < i ∧ ho = place (slotOf t key) (t.length : Int) j
theorem slot_lt {t : List DSlot} {key : ByteArray} (h : 0 ≤ slotOf t key) : slotOf t key < (t.length : Int) := by
  rcases slotOf_cases t key with ⟨i, hi, e, _⟩ | ⟨e, _⟩ <;> omega
theorem place0 {h n : Int} (h0 : 0 ≤ h ∧ h < n) : place h n 0 = h := by
  unfold place; rw [show h + ((0 : Nat) : Int) = h by omega, Int.tmod_eq_emod_of_nonneg h0.1]; exact Int.emod_eq_of_lt h0.1 h0.2
theorem RD.start {t : List DSlot} {key : ByteArray} (ho : Ok t) (h : 0 ≤ slotOf t key) : RD t key (t.set (slotOf t key).toNat none_) (slotOf t key) 1 := by
  have hl := slot_lt h
  have e := find_slot ho key
  have d := DI.start (key := key) (check_ok.2 ho) (by rw [e]; exact h) (by rw [e]; exact hl)
  rw [e] at d
  have hn := ho.len
  have d2 := d.same (by omega) (by rw [e]; exact place0 ⟨h, hl⟩)
  refine ⟨⟨Nat.le_refl _, hn.1⟩, d2.len, d2.hob, d2.ks, by have := d2.eq; rw [e] at this; exact this, ⟨0, by omega, (place0 ⟨h, hl⟩).symm⟩⟩
section
variable {t ls : List DSlot} {key : ByteArray} {ho : Int} {i : Nat}
theorem RD.ne (h : RD t key ls ho i) (h0 : 0 ≤ slotOf t key) (hi : i < t.length) : ¬ place (slotOf t key) (t.length : Int) i = ho := by
  obtain ⟨j, hj, e⟩ := h.at_
  intro q
  have := place_inj h0 (by omega) (by omega) (q.trans e); omega
theorem RD.stop (h : RD t key ls ho i) (h0 : 0 ≤ slotOf t key) (hi : i < t.length) (hu : (ls.getD (place (slotOf t key) (t.length : Int) i).toNat default).used = false) : ls = drop t key := by rw [← h.eq, drop_step hi, if_neg (h.ne h0 hi), if_pos hu]
theorem RD.done (h : RD t key ls ho i) (hi : t.length ≤ i) : ls = drop t key := by rw [← h.eq, show t.length - i = 0 by omega]; rfl
theorem RD.move (h : RD t key ls ho i) (ok : 1 ≤ t.length ∧ t.length ≤ 64) (h0 : 0 ≤ slotOf t key) (hi : i < t.length) (hu : (ls.getD (place (slotOf t key) (t.length : Int) i).toNat default).used = true) {k : Int} (q : KI (t.length : Int) (home (ls.getD (place (slotOf t key) (t.length : Int) i).toNat default).key (t.length : Int)) (place (slotOf t key) (t.length : Int) i) ho k) (e : k = ho) :
    RD t key ((ls.set ho.toNat (ls.getD (place (slotOf t key) (t.length : Int) i).toNat default)).set (place (slotOf t key) (t.length : Int) i).toNat none_) (place (slotOf t key) (t.length : Int) i) (i + 1) := by
  have hp := place_bd (n := (t.length : Int)) (by omega) h0 i
  have hh := home_bd (ls.getD (place (slotOf t key) (t.length : Int) i).toNat default).key (n := (t.length : Int)) (by omega)
  have hd := q.at_ho hh hp h.hob (h.ne h0 hi) e
  refine ⟨by omega, by simp [h.len], hp, fun j hj => ?_, ?_, ⟨i, by omega, rfl⟩⟩
  · have hj' : j < ls.length := by simpa using hj
    rw [getd_set (by simpa using hj')]
    split
    · decide
    · rw [getd_set hj']
      split
      · exact h.ks _ (by rw [h.len]; omega)
      · exact h.ks j hj'
  · rw [← h.eq, drop_step hi, if_neg (h.ne h0 hi), if_neg (by rw [hu]; decide), if_pos (by rw [tm_dist h.hob hp, tm_dist hh hp]; exact hd)]
theorem RD.keep (h : RD t key ls ho i) (ok : 1 ≤ t.length ∧ t.length ≤ 64) (h0 : 0 ≤ slotOf t key) (hi : i < t.length) (hu : (ls.getD (place (slotOf t key) (t.length : Int) i).toNat default).used = true) {k : Int} (q : KI (t.length : Int) (home (ls.getD (place (slotOf t key) (t.length : Int) i).toNat default).key (t.length : Int)) (place (slotOf t key) (t.length : Int) i) ho k) (e : k = place (slotOf t key) (t.length : Int) i) : RD t key ls ho (i + 1) := by
  have hp := place_bd (n := (t.length : Int)) (by omega) h0 i
  have hh := home_bd (ls.getD (place (slotOf t key) (t.length : Int) i).toNat default).key (n := (t.length : Int)) (by omega)
  have hd := q.at_at hh hp h.hob (h.ne h0 hi) e
  obtain ⟨j, hj, e2⟩ := h.at_
  refine ⟨by omega, h.len, h.hob, h.ks, ?_, ⟨j, by omega, e2⟩⟩
  rw [← h.eq, drop_step hi, if_neg (h.ne h0 hi), if_neg (by rw [hu]; decide), if_neg (by rw [tm_dist h.hob hp, tm_dist hh hp]; omega)]
end
end Go.Sx.Tab
namespace Go.Sx.Tab
theorem RD.key {t ls : List DSlot} {key : ByteArray} {ho : Int} {i : Nat} (h : RD t key ls ho i) {p : Int} (hp : 0 ≤ p ∧ p < (t.length : Int)) : (ls.getD p.toNat default).key.size ≤ 40 := h.ks _ (by rw [h.len]; omega)
end Go.Sx.Tab

/- The walks, printed by a program from the translation and a specification. -/
namespace Go.Proofs.Ythecfjipaepcgaa
open Go.Sx Go.RowKit
set_option maxHeartbeats 8000000 in
set_option maxRecDepth 100000 in
theorem tableDrop_ok (tt : List DSlot) (att : Option Addr) (ctt : Nat) (key : ByteArray) (hy1 : Tab.Ok tt ∧ 0 ≤ Tab.slotOf tt key) : FnM Try.prog 22 [.slice att tt.length ctt, .string key] (fun w => Rd tSlot w att ctt tt) (Option Addr × Nat) (fun p => .slice p.1 (Tab.drop tt key).length p.2) (fun p S w => SlO tSlot S w p.1 p.2 (Tab.drop tt key)) := by
 refine fnM (nt := 76) (F0 := [(0, .slice att tt.length ctt), (1, .string key)]) Try.func22 rfl Try.ntmps22 rfl rfl (fun w0 hpre => ?_)
 have htt := hpre
 have hlhtt := htt.2.1
 have hln := hy1.1.len
 have hsl := Tab.slot_lt hy1.2
 have hap : (([] : List DSlot) ++ tt).length = tt.length := rfl
 refine c_seq (c_region ?_)
 refine o_as rfl rfl ?_
 refine o_nil (q_then (c_seq (c_region ?_)))
 refine o_buildSlice (m := 0) (T := tSlot) (L := []) (vs := []) rfl rfl rfl rfl Try.underlying22 sz33 (by decide) ze33 rfl (by decide) rfl (fun S1 a2 => ?_)
 refine o_mv rfl rfl ?_
 refine o_append (i := 0) (L := []) (M := tt) (T := tSlot) rfl rfl rfl (rd_base (i := 1) rfl htt) Try.underlying22 Try.underlying22 (by intro k h; cases h) el33 (by intro z; simp [tSlot, one1]) (by decide) (by first | omega | (simp only [List.length_cons, List.length_nil]; omega) | (simp only [List.length_append, List.length_cons, List.length_nil, List.length_take, List.length_drop]; omega)) rfl (fun a4 c5 S6 => ?_)
 refine o_as rfl rfl ?_
 refine o_nil (q_then (c_seq (c_region ?_)))
 refine o_mv rfl rfl ?_
 refine o_p (p_len_slice rfl rfl Try.underlying22) ?_
 refine o_as rfl rfl ?_
 refine o_nil (q_then (c_seq (c_region ?_)))
 refine o_mv rfl rfl ?_
 refine o_mv rfl rfl ?_
 refine o_call0 (v := Vi (Tab.slotOf tt key)) rfl (slotOf_ok tt att ctt key) hf20 (fun w hw => (rd_base (i := 1) rfl htt) w hw) rfl ?_
 refine o_as rfl rfl ?_
 refine o_nil (q_then (c_seq (c_region ?_)))
 refine o_mv rfl rfl ?_
 refine o_mv rfl rfl ?_
 refine o_p (p_build (cells := [.bool false, .string ByteArray.empty, Vi 0]) fp33 ze33 rfl rfl) ?_
 refine o_p (p_indexAddr (L := tt) (T := tSlot) (i := (Tab.slotOf tt key)) rfl rfl (rd_own (i := 0) rfl) Try.underlying22 sz33 (by omega) (by omega)) ?_
 refine o_storeW (i := 0) (T := tSlot) (L := tt) (idx := (Tab.slotOf tt key).toNat) (v := .agg #[.bool false, .string ByteArray.empty, Vi 0]) (vs := [.bool false, .string ByteArray.empty, Vi 0]) (z := (⟨false, ByteArray.empty, 0⟩ : DSlot)) (F' := [(5, .slice a4 (tt.set ((Tab.slotOf tt key).toNat) (⟨false, ByteArray.empty, 0⟩ : DSlot)).length c5), (6, Vi (tt.length : Int)), (7, Vi (Tab.slotOf tt key))]) rfl rfl rfl rfl (by first | assumption | omega | (simp only [List.length_set]; omega)) sz33 rfl rfl rfl rfl (Sub.cons (by first | (simp only [List.length_set]; rfl) | (show some _ = some _; congr 2; rw [List.length_set]) | (rw [List.length_set]; rfl)) (sr (sr (Sub.nil _)))) ?_
 refine o_nil (q_then (c_seq (c_region ?_)))
 refine o_mv rfl rfl ?_
 refine o_as rfl rfl ?_
 refine o_nil (q_then (c_seq (c_seq (c_region ?_))))
 refine o_as rfl rfl ?_
 refine o_nil (q_then (c_block ?_))
 refine c_loop (St := Int × Nat × List DSlot)
  (fun ⟨ho, i, ls⟩ => [(5, .slice a4 ls.length c5), (6, Vi (tt.length : Int)), (7, Vi (Tab.slotOf tt key)), (8, Vi ho), (9, Vi (i : Int))])
  (fun ⟨ho, i, ls⟩ => [own tSlot S6 a4 c5 ls, base w0])
  (fun ⟨ho, i, ls⟩ => Tab.RD tt key ls ho i)
  (fun ⟨ho, i, ls⟩ => tt.length - i)
  ((Tab.slotOf tt key), 1, (tt.set ((Tab.slotOf tt key).toNat) (⟨false, ByteArray.empty, 0⟩ : DSlot))) ?_ (sr (sr (sr (sr (sr (Sub.nil _)))))) (fun _ hw => hw) ?_
 ·exact Tab.RD.start hy1.1 hy1.2
 rintro ⟨ho, i, ls⟩ hI K hK7
 have hll := hI.len
 have hob := hI.hob
 have hle := hI.le
 have hpb : 0 ≤ ((Tab.slotOf tt key + (i : Int)).tmod (tt.length : Int)) ∧ ((Tab.slotOf tt key + (i : Int)).tmod (tt.length : Int)) < (tt.length : Int) := Tab.place_bd (h := Tab.slotOf tt key) (n := (tt.length : Int)) (by omega) (by omega) i
 show SC _ _ Try.prog 76 w0 _ _ [(5, .slice a4 ls.length c5), (6, Vi (tt.length : Int)), (7, Vi (Tab.slotOf tt key)), (8, Vi ho), (9, Vi (i : Int))] [own tSlot S6 a4 c5 ls, base w0]
 refine c_seq (c_seq (c_region ?_))
 refine o_mv rfl rfl ?_
 refine o_mv rfl rfl ?_
 refine o_p (p_lt rfl rfl) ?_
 refine o_nil (q_then ?_)
 refine c_cond rfl (fun hc8 => ?_) (fun hc8 => ?_)
 ·simp only [decide_eq_true_eq] at hc8
  refine c_skip (q_then (c_seq (c_block (c_seq (c_region ?_)))))
  refine o_mv rfl rfl ?_
  refine o_mv rfl rfl ?_
  refine o_p (p_addb rfl rfl (by omega)) ?_
  refine o_mv rfl rfl ?_
  refine o_p (p_rem (p := ((Tab.slotOf tt key) + (i : Int))) (q := (tt.length : Int)) rfl rfl (by omega)) ?_
  refine o_as rfl rfl ?_
  refine o_nil (q_then (c_seq (c_seq (c_region ?_))))
  refine o_mv rfl rfl ?_
  refine o_mv rfl rfl ?_
  refine o_p (p_indexAddr (L := ls) (T := tSlot) (i := (((Tab.slotOf tt key) + (i : Int)).tmod (tt.length : Int))) rfl rfl (rd_own (i := 0) rfl) Try.underlying22 sz33 (by omega) (by omega)) ?_
  refine o_p (p_fieldAddrE rfl fo33_0) ?_
  refine o_p (p_loadF (i := (((Tab.slotOf tt key) + (i : Int)).tmod (tt.length : Int)).toNat) (j := 0) (T := tSlot) (L := ls) (v := .bool ((ls.getD ((((Tab.slotOf tt key) + (i : Int)).tmod (tt.length : Int)).toNat) default).used)) rfl (rd_own (i := 0) rfl) (by first | assumption | omega) sh4 (congrArg (fun z => (tSlot.enc z)[0]?) (getd_at (by first | assumption | omega) default))) ?_
  refine o_p (p_not (b := (ls.getD ((((Tab.slotOf tt key) + (i : Int)).tmod (tt.length : Int)).toNat) default).used) rfl) ?_
  refine o_nil (q_then ?_)
  refine c_cond rfl (fun hc9 => ?_) (fun hc9 => ?_)
  ·simp only [Bool.not_eq_true'] at hc9
   have hu := hc9
   have hR := hI
   refine c_exit ?_
   refine q_then_exit (q_block_pass rfl (q_then_exit (q_then_exit (q_block_exit (q_then ?_)))))
   refine c_seq (c_region ?_)
   refine o_mv rfl rfl ?_
   refine o_as rfl rfl ?_
   refine o_nil (q_then (c_ret ?_))
   have hr0 : (ls : List DSlot) = (Tab.drop tt key) := by
    first | exact hI.done (by omega) | exact hR.stop hy1.2 (by omega) hu
   refine q_endM (p := (a4, c5)) S6 (rt1 rfl (r_tmp rfl)) (i := 1) rfl ?_ ?_ ?_
   ·exact (by have hcc := congrArg (fun (y0 : List DSlot) => (.slice a4 y0.length c5 : Value)) hr0; exact hcc)
   ·exact fun w hw => hw.above (i := 1) (j := 0) (by decide) rfl rfl
   ·intro w hw; exact Eq.mp (congrArg (fun y => SlO tSlot _ w a4 c5 y) hr0) ((hw.at (i := 0) rfl).here)
  ·simp only [Bool.not_eq_false'] at hc9
   have hu := hc9
   have hR := hI
   have hkk := hI.key hpb
   have hom := Tab.home_bd (ls.getD ((Tab.slotOf tt key + (i : Int)).tmod (tt.length : Int)).toNat default).key (n := (tt.length : Int)) (by omega)
   refine c_skip (q_then (c_seq (c_region ?_)))
   refine o_mv rfl rfl ?_
   refine o_mv rfl rfl ?_
   refine o_p (p_indexAddr (L := ls) (T := tSlot) (i := (((Tab.slotOf tt key) + (i : Int)).tmod (tt.length : Int))) rfl rfl (rd_own (i := 0) rfl) Try.underlying22 sz33 (by omega) (by omega)) ?_
   refine o_p (p_fieldAddrE rfl fo33_1) ?_
   refine o_p (p_loadF (i := (((Tab.slotOf tt key) + (i : Int)).tmod (tt.length : Int)).toNat) (j := 1) (T := tSlot) (L := ls) (v := .string ((ls.getD ((((Tab.slotOf tt key) + (i : Int)).tmod (tt.length : Int)).toNat) default).key)) rfl (rd_own (i := 0) rfl) (by first | assumption | omega) sh9 (congrArg (fun z => (tSlot.enc z)[1]?) (getd_at (by first | assumption | omega) default))) ?_
   refine o_mv rfl rfl ?_
   refine o_call0 (v := Vi (Tab.home ((ls.getD ((((Tab.slotOf tt key) + (i : Int)).tmod (tt.length : Int)).toNat) default).key) (tt.length : Int))) rfl (homeOf_ok ((ls.getD ((((Tab.slotOf tt key) + (i : Int)).tmod (tt.length : Int)).toNat) default).key) (tt.length : Int) (by first | assumption | omega | exact Tab.key_le hz (by omega) | exact hy1.2)) hf21 (fun _ _ => trivial) rfl ?_
   refine o_as rfl rfl ?_
   refine o_nil (q_then (c_seq (c_block ?_)))
   refine c_loop (St := Int)
    (fun kk => [(5, .slice a4 ls.length c5), (6, Vi (tt.length : Int)), (7, Vi (Tab.slotOf tt key)), (8, Vi ho), (9, Vi (i : Int)), (10, Vi (((Tab.slotOf tt key) + (i : Int)).tmod (tt.length : Int))), (11, Vi kk)])
    (fun kk => [own tSlot S6 a4 c5 ls, base w0])
    (fun kk => Tab.KI (tt.length : Int) (Tab.home (ls.getD ((Tab.slotOf tt key + (i : Int)).tmod (tt.length : Int)).toNat default).key (tt.length : Int)) ((Tab.slotOf tt key + (i : Int)).tmod (tt.length : Int)) ho kk)
    (fun kk => (Tab.dist (tt.length : Int) (Tab.home (ls.getD ((Tab.slotOf tt key + (i : Int)).tmod (tt.length : Int)).toNat default).key (tt.length : Int)) ((Tab.slotOf tt key + (i : Int)).tmod (tt.length : Int)) - Tab.dist (tt.length : Int) (Tab.home (ls.getD ((Tab.slotOf tt key + (i : Int)).tmod (tt.length : Int)).toNat default).key (tt.length : Int)) kk).toNat)
    (Tab.home ((ls.getD ((((Tab.slotOf tt key) + (i : Int)).tmod (tt.length : Int)).toNat) default).key) (tt.length : Int)) ?_ (sr (sr (sr (sr (sr (sr (sr (Sub.nil _)))))))) (fun _ hw => hw) ?_
   ·exact Tab.KI.start hom hpb hob
   rintro kk hI K hK10
   have hkb := hI.bd
   show SC _ _ Try.prog 76 w0 _ _ [(5, .slice a4 ls.length c5), (6, Vi (tt.length : Int)), (7, Vi (Tab.slotOf tt key)), (8, Vi ho), (9, Vi (i : Int)), (10, Vi (((Tab.slotOf tt key) + (i : Int)).tmod (tt.length : Int))), (11, Vi kk)] [own tSlot S6 a4 c5 ls, base w0]
   refine c_seq (c_seq (c_region ?_))
   refine o_mv rfl rfl ?_
   refine o_mv rfl rfl ?_
   refine o_p (p_ne rfl rfl) ?_
   refine o_mv rfl rfl ?_
   refine o_and (p := 55) 4 (kk != ho) ?_ ?_ ?_
   ·intro hb11 hk
    simp only [bne_iff_ne, ne_eq] at hb11
    refine o_unguard 51 rfl rfl ?_
    refine o_mv rfl rfl ?_
    refine o_unguard 51 rfl rfl ?_
    refine o_mv rfl rfl ?_
    refine o_unguard 51 rfl rfl ?_
    refine o_p (p_ne rfl rfl) ?_
    refine o_pt rfl rfl rfl ?_
    exact o_sub (sr (Sub.skip rfl (Sub.skip rfl (Sub.skip rfl (Sub.skip rfl (Sub.skip rfl (Sub.refl _))))))) hk
   ·intro hb11 hk
    refine o_guard_no rfl 51 rfl rfl rfl rfl rfl ?_
    refine o_guard_no rfl 51 rfl rfl rfl rfl rfl ?_
    refine o_guard_no rfl 51 rfl rfl rfl rfl rfl ?_
    refine o_pf rfl rfl rfl ?_
    exact o_sub (sr (Sub.skip rfl (Sub.skip rfl (Sub.skip rfl (Sub.skip rfl (Sub.skip rfl (Sub.refl _))))))) hk
   refine o_nil (q_then ?_)
   refine c_cond rfl (fun hc12 => ?_) (fun hc12 => ?_)
   ·simp only [Bool.and_eq_true, bne_iff_ne, ne_eq] at hc12
    refine c_skip (q_then (c_block (c_region ?_)))
    refine o_mv rfl rfl ?_
    refine o_p (p_addb rfl rfl (by omega)) ?_
    refine o_mv rfl rfl ?_
    refine o_p (p_rem (p := (kk + 1)) (q := (tt.length : Int)) rfl rfl (by omega)) ?_
    refine o_as rfl rfl ?_
    refine o_nil ?_
    refine q_block_normal ?_
    refine q_round hK10 ((kk + 1).tmod (tt.length : Int)) ?_ ?_ ?_ ?_
    ·clear hK10
     exact (hI.next hom hpb hob (by omega) (by omega)).1
    ·(try dsimp only); have h9 := (hI.next hom hpb hob (by omega) (by omega)).2; omega
    ·exact sr (sr (sr (sr (sr (sr (sr (Sub.nil _)))))))
    ·exact pk [0, 1]
   ·simp only [Bool.and_eq_false_iff, bne_eq_false_iff_eq] at hc12
    refine c_exit ?_
    refine q_then_exit (q_then_exit (q_block_exit (q_then ?_)))
    refine c_seq (c_region ?_)
    refine o_mv rfl rfl ?_
    refine o_mv rfl rfl ?_
    refine o_p (p_eq rfl rfl) ?_
    refine o_nil (q_then ?_)
    refine c_cond rfl (fun hc13 => ?_) (fun hc13 => ?_)
    ·simp only [beq_iff_eq] at hc13
     have hset : (ls.set ho.toNat (ls.getD ((Tab.slotOf tt key + (i : Int)).tmod (tt.length : Int)).toNat default)).length = ls.length := List.length_set
     refine c_seq (c_region ?_)
     refine o_mv rfl rfl ?_
     refine o_mv rfl rfl ?_
     refine o_mv rfl rfl ?_
     refine o_mv rfl rfl ?_
     refine o_p (p_indexAddr (L := ls) (T := tSlot) (i := (((Tab.slotOf tt key) + (i : Int)).tmod (tt.length : Int))) rfl rfl (rd_own (i := 0) rfl) Try.underlying22 sz33 (by omega) (by omega)) ?_
     refine o_p (p_loadEn (i := (((Tab.slotOf tt key) + (i : Int)).tmod (tt.length : Int)).toNat) (T := tSlot) (L := ls) (vs := [.bool ((ls.getD ((((Tab.slotOf tt key) + (i : Int)).tmod (tt.length : Int)).toNat) default).used), .string ((ls.getD ((((Tab.slotOf tt key) + (i : Int)).tmod (tt.length : Int)).toNat) default).key), Vi ((ls.getD ((((Tab.slotOf tt key) + (i : Int)).tmod (tt.length : Int)).toNat) default).value)]) rfl (rd_own (i := 0) rfl) (by first | assumption | omega) sh33 (congrArg tSlot.enc (getd_at (by first | assumption | omega) default))) ?_
     refine o_p (p_indexAddr (L := ls) (T := tSlot) (i := ho) rfl rfl (rd_own (i := 0) rfl) Try.underlying22 sz33 (by omega) (by omega)) ?_
     refine o_storeW (i := 0) (T := tSlot) (L := ls) (idx := ho.toNat) (v := .agg #[.bool ((ls.getD ((((Tab.slotOf tt key) + (i : Int)).tmod (tt.length : Int)).toNat) default).used), .string ((ls.getD ((((Tab.slotOf tt key) + (i : Int)).tmod (tt.length : Int)).toNat) default).key), Vi ((ls.getD ((((Tab.slotOf tt key) + (i : Int)).tmod (tt.length : Int)).toNat) default).value)]) (vs := [.bool ((ls.getD ((((Tab.slotOf tt key) + (i : Int)).tmod (tt.length : Int)).toNat) default).used), .string ((ls.getD ((((Tab.slotOf tt key) + (i : Int)).tmod (tt.length : Int)).toNat) default).key), Vi ((ls.getD ((((Tab.slotOf tt key) + (i : Int)).tmod (tt.length : Int)).toNat) default).value)]) (z := (ls.getD ((((Tab.slotOf tt key) + (i : Int)).tmod (tt.length : Int)).toNat) default)) (F' := [(5, .slice a4 (ls.set ho.toNat (ls.getD ((((Tab.slotOf tt key) + (i : Int)).tmod (tt.length : Int)).toNat) default)).length c5), (6, Vi (tt.length : Int)), (7, Vi (Tab.slotOf tt key)), (9, Vi (i : Int)), (10, Vi (((Tab.slotOf tt key) + (i : Int)).tmod (tt.length : Int)))]) rfl rfl rfl rfl (by first | assumption | omega | (simp only [List.length_set]; omega)) sz33 rfl rfl rfl rfl (Sub.cons (by first | (simp only [List.length_set]; rfl) | (show some _ = some _; congr 2; rw [List.length_set]) | (rw [List.length_set]; rfl)) (sr (sr (sr (sr (Sub.nil _)))))) ?_
     refine o_nil (q_then (c_seq (c_region ?_)))
     refine o_mv rfl rfl ?_
     refine o_mv rfl rfl ?_
     refine o_p (p_build (cells := [.bool false, .string ByteArray.empty, Vi 0]) fp33 ze33 rfl rfl) ?_
     refine o_p (p_indexAddr (L := (ls.set ho.toNat (ls.getD ((((Tab.slotOf tt key) + (i : Int)).tmod (tt.length : Int)).toNat) default))) (T := tSlot) (i := (((Tab.slotOf tt key) + (i : Int)).tmod (tt.length : Int))) rfl rfl (rd_own (i := 0) rfl) Try.underlying22 sz33 (by omega) (by omega)) ?_
     refine o_storeW (i := 0) (T := tSlot) (L := (ls.set ho.toNat (ls.getD ((((Tab.slotOf tt key) + (i : Int)).tmod (tt.length : Int)).toNat) default))) (idx := (((Tab.slotOf tt key) + (i : Int)).tmod (tt.length : Int)).toNat) (v := .agg #[.bool false, .string ByteArray.empty, Vi 0]) (vs := [.bool false, .string ByteArray.empty, Vi 0]) (z := (⟨false, ByteArray.empty, 0⟩ : DSlot)) (F' := [(5, .slice a4 ((ls.set ho.toNat (ls.getD ((((Tab.slotOf tt key) + (i : Int)).tmod (tt.length : Int)).toNat) default)).set ((((Tab.slotOf tt key) + (i : Int)).tmod (tt.length : Int)).toNat) (⟨false, ByteArray.empty, 0⟩ : DSlot)).length c5), (6, Vi (tt.length : Int)), (7, Vi (Tab.slotOf tt key)), (9, Vi (i : Int)), (10, Vi (((Tab.slotOf tt key) + (i : Int)).tmod (tt.length : Int)))]) rfl rfl rfl rfl (by first | assumption | omega | (simp only [List.length_set]; omega)) sz33 rfl rfl rfl rfl (Sub.cons (by first | (simp only [List.length_set]; rfl) | (show some _ = some _; congr 2; rw [List.length_set]) | (rw [List.length_set]; rfl)) (sr (sr (sr (sr (Sub.nil _)))))) ?_
     refine o_nil (q_then (c_region ?_))
     refine o_mv rfl rfl ?_
     refine o_as rfl rfl ?_
     refine o_nil ?_
     refine q_block_normal (q_then ?_)
     refine c_region ?_
     refine o_mv rfl rfl ?_
     refine o_p (p_addb rfl rfl (by omega)) ?_
     refine o_as rfl rfl ?_
     refine o_nil ?_
     refine q_round hK7 ((((Tab.slotOf tt key) + (i : Int)).tmod (tt.length : Int)), i + 1, ((ls.set ho.toNat (ls.getD ((((Tab.slotOf tt key) + (i : Int)).tmod (tt.length : Int)).toNat) default)).set ((((Tab.slotOf tt key) + (i : Int)).tmod (tt.length : Int)).toNat) (⟨false, ByteArray.empty, 0⟩ : DSlot))) ?_ ?_ ?_ ?_
     ·clear hK7
      first | exact hR.move hln hy1.2 (by omega) hu hI (by omega) | exact hR.keep hln hy1.2 (by omega) hu hI (show kk = ((Tab.slotOf tt key + (i : Int)).tmod (tt.length : Int)) by omega)
     ·(try dsimp only); omega
     ·exact sr (sr (sr (sr (sr (Sub.nil _)))))
     ·exact pk [0, 1]
    ·simp only [beq_eq_false_iff_ne, ne_eq] at hc13
     refine c_skip ?_
     refine q_block_normal (q_then ?_)
     refine c_region ?_
     refine o_mv rfl rfl ?_
     refine o_p (p_addb rfl rfl (by omega)) ?_
     refine o_as rfl rfl ?_
     refine o_nil ?_
     refine q_round hK7 (ho, i + 1, ls) ?_ ?_ ?_ ?_
     ·clear hK7
      first | exact hR.move hln hy1.2 (by omega) hu hI (by omega) | exact hR.keep hln hy1.2 (by omega) hu hI (show kk = ((Tab.slotOf tt key + (i : Int)).tmod (tt.length : Int)) by omega)
     ·(try dsimp only); omega
     ·exact sr (sr (sr (sr (sr (Sub.nil _)))))
     ·exact pk [0, 1]
 ·simp only [decide_eq_false_iff_not, Int.not_lt] at hc8
  refine c_exit ?_
  refine q_then_exit (q_then_exit (q_block_exit (q_then ?_)))
  refine c_seq (c_region ?_)
  refine o_mv rfl rfl ?_
  refine o_as rfl rfl ?_
  refine o_nil (q_then (c_ret ?_))
  have hr0 : (ls : List DSlot) = (Tab.drop tt key) := by
   first | exact hI.done (by omega) | exact hR.stop hy1.2 (by omega) hu
  refine q_endM (p := (a4, c5)) S6 (rt1 rfl (r_tmp rfl)) (i := 1) rfl ?_ ?_ ?_
  ·exact (by have hcc := congrArg (fun (y0 : List DSlot) => (.slice a4 y0.length c5 : Value)) hr0; exact hcc)
  ·exact fun w hw => hw.above (i := 1) (j := 0) (by decide) rfl rfl
  ·intro w hw; exact Eq.mp (congrArg (fun y => SlO tSlot _ w a4 c5 y) hr0) ((hw.at (i := 0) rfl).here)
end Go.Proofs.Ythecfjipaepcgaa

/- Hash tables: the reference of Check. -/
namespace Go.Sx.Tab
section
variable {t : List DSlot} {i : Nat}
theorem c_bad1 (h : CI t i) (hi : i < t.length) (hu : (t.getD i default).used = false) (hb : ¬ (t.getD i default).key = ByteArray.empty ∨ ¬ (t.getD i default).value = 0) : 1 = checkGo [] t := by
  rw [getd_eq hi] at hu hb
  have e := one1 (s := t[i]) ⟨hu, .inr hb⟩
  rw [e]; exact h.bad hi (by rw [← e]; decide)
theorem c_bad3 (h : CI t i) (hi : i < t.length) (hu : (t.getD i default).used = true) (hb : 40 < ((t.getD i default).key.size : Int) ∨ Ref.between (t.getD i default).value (-1099511627776) 1099511627776 = false) : 3 = checkGo [] t := by
  rw [getd_eq hi] at hu hb
  have e := one2 (s := t[i]) (.inl hu) hb
  rw [e]; exact h.bad hi (by rw [← e]; decide)
theorem keys_has {k : Nat} {key : ByteArray} (hi : i ≤ t.length) : key ∈ keys (t.take i) ↔ ∃ k, k < i ∧ U t k = true ∧ K t k = key := by
  rw [keys_mem]
  constructor
  · rintro ⟨v, hc⟩
    obtain ⟨j, hj, a, b, _⟩ := C_at.1 hc
    rw [List.length_take] at hj
    have hj' : j < t.length := by omega
    unfold U at a; unfold K at b
    rw [getd_eq (by rw [List.length_take]; omega), List.getElem_take] at a b
    exact ⟨j, by omega, by unfold U; rw [getd_eq hj']; exact a, by unfold K; rw [getd_eq hj']; exact b⟩
  · rintro ⟨j, hj, a, b⟩
    have hj' : j < t.length := by omega
    unfold U at a; unfold K at b
    rw [getd_eq hj'] at a b
    refine ⟨t[j].value, t[j], List.mem_iff_getElem.2 ⟨j, by rw [List.length_take]; omega, List.getElem_take⟩, a, b, rfl⟩
theorem c_twice (h : CI t i) (hi : i < t.length) (hu : (t.getD i default).used = true) (hb : ((t.getD i default).key.size : Int) ≤ 40 ∧ Ref.between (t.getD i default).value (-1099511627776) 1099511627776 = true) {k : Nat} (hk : k < i) (hs : (t.getD k default).used = true ∧ (t.getD k default).key = (t.getD i default).key) : 6 = checkGo [] t := by
  have hm : (t.getD i default).key ∈ keys (t.take i) := (keys_has (k := 0) (by omega)).2 ⟨k, hk, hs.1, hs.2⟩
  rw [getd_eq hi] at hu hb hm
  exact h.twice hi (one3 (s := t[i]) (.inl hu) hb).symm hu hm
theorem c_skip (h : CI t i) (hi : i < t.length) (hu : (t.getD i default).used = false) (hb : (t.getD i default).key = ByteArray.empty ∧ (t.getD i default).value = 0) : CI t (i + 1) := by
  rw [getd_eq hi] at hu hb
  exact h.skip hi (one3 (s := t[i]) (.inr ⟨hu, hb⟩) (by rw [hb.1, hb.2]; decide)).symm hu
theorem c_next (h : CI t i) (hi : i < t.length) (hu : (t.getD i default).used = true) (hb : ((t.getD i default).key.size : Int) ≤ 40 ∧ Ref.between (t.getD i default).value (-1099511627776) 1099511627776 = true) (hs : ∀ k, k < i → ¬ ((t.getD k default).used = true ∧ (t.getD k default).key = (t.getD i default).key)) : CI t (i + 1) := by
  have hm : (t.getD i default).key ∉ keys (t.take i) := fun q => by
    obtain ⟨k, a, b, c⟩ := (keys_has (k := 0) (by omega)).1 q
    exact hs k a ⟨b, c⟩
  rw [getd_eq hi] at hu hb hm
  exact h.next hi (one3 (s := t[i]) (.inl hu) hb).symm hu hm
structure WI (t : List DSlot) (i : Nat) (at_ : Int) : Prop where
  bd : 0 ≤ at_ ∧ at_ < (t.length : Int)
  no : (t.getD i default).used = false → at_ = (i : Int)
  yes : (t.getD i default).used = true → ∃ j : Nat, at_ = place (home (t.getD i default).key (t.length : Int)) (t.length : Int) j ∧ RI t (i : Int) j ∧ (j : Int) + dist (t.length : Int) at_ (i : Int) = dist (t.length : Int) (home (t.getD i default).key (t.length : Int)) (i : Int)
theorem WI.start_no (hi : i < t.length) (hu : (t.getD i default).used = false) : WI t i (i : Int) := ⟨by omega, fun _ => rfl, fun q => by rw [hu] at q; cases q⟩
theorem WI.start (hi : i < t.length) (hn : t.length ≤ 64) (hu : (t.getD i default).used = true) : WI t i (home (t.getD i default).key (t.length : Int)) := by
  have hh := home_bd (t.getD i default).key (n := (t.length : Int)) (by omega)
  exact ⟨hh, fun q => (by rw [hu] at q; cases q), fun _ => ⟨0, (place0 hh).symm, RI.start t _, by omega⟩⟩
theorem WI.facts {at_ : Int} (h : WI t i at_) (hi : i < t.length) (hn : t.length ≤ 64) (hne : ¬ at_ = (i : Int)) : ∃ j : Nat, j < t.length ∧ at_ = place (home (t.getD i default).key (t.length : Int)) (t.length : Int) j ∧ RI t (i : Int) j ∧ (j : Int) + dist (t.length : Int) at_ (i : Int) = dist (t.length : Int) (home (t.getD i default).key (t.length : Int)) (i : Int) ∧ (t.getD i default).used = true := by
  have hh := home_bd (t.getD i default).key (n := (t.length : Int)) (by omega)
  rcases Bool.eq_false_or_eq_true (t.getD i default).used with u | u
  · obtain ⟨j, a, b, c⟩ := h.yes u
    refine ⟨j, ?_, a, b, c, u⟩
    have hb := h.bd
    clear a b
    generalize home (t.getD i default).key (t.length : Int) = hm at *
    rcases dist_cases (t.length : Int) at_ (i : Int) with ⟨x1, x2⟩ | ⟨x1, x2⟩ <;> rcases dist_cases (t.length : Int) hm (i : Int) with ⟨y1, y2⟩ | ⟨y1, y2⟩ <;> omega
  · exact absurd (h.no u) hne
theorem WI.bad {at_ : Int} (h : WI t i at_) (ha : AI t i) (hi : i < t.length) (hn : t.length ≤ 64) (hne : ¬ at_ = (i : Int)) (hu : (t.getD at_.toNat default).used = false) : 4 = allGo t t.length 0 := by
  obtain ⟨j, hj, a, b, c, u⟩ := h.facts hi hn hne
  refine ha.bad hi ⟨u, ?_⟩
  subst a
  exact (b.no hj hne hu).symm
theorem WI.next {at_ : Int} (h : WI t i at_) (hi : i < t.length) (hn : t.length ≤ 64) (hne : ¬ at_ = (i : Int)) (hu : (t.getD at_.toNat default).used = true) : WI t i ((at_ + 1).tmod (t.length : Int)) ∧ dist (t.length : Int) ((at_ + 1).tmod (t.length : Int)) (i : Int) < dist (t.length : Int) at_ (i : Int) ∧ 0 ≤ dist (t.length : Int) ((at_ + 1).tmod (t.length : Int)) (i : Int) := by
  obtain ⟨j, hj, a, b, c, u⟩ := h.facts hi hn hne
  have hb := h.bd
  have hh := home_bd (t.getD i default).key (n := (t.length : Int)) (by omega)
  have b2 : RI t (i : Int) (j + 1) := by subst a; exact b.next hj hne hu
  have e : (at_ + 1).tmod (t.length : Int) = place (home (t.getD i default).key (t.length : Int)) (t.length : Int) (j + 1) := by
    rw [a]; unfold place
    generalize home (t.getD i default).key (t.length : Int) = hm at *
    rw [Int.tmod_eq_emod_of_nonneg (show 0 ≤ hm + (j : Int) by omega), Int.tmod_eq_emod_of_nonneg (by have := Int.emod_nonneg (hm + (j : Int)) (show (t.length : Int) ≠ 0 by omega); omega), Int.tmod_eq_emod_of_nonneg (by omega), Int.emod_add_emod, Int.add_assoc]
    rfl
  have hs : (at_ + 1 = (t.length : Int) ∧ (at_ + 1).tmod (t.length : Int) = 0) ∨ (at_ + 1 < (t.length : Int) ∧ (at_ + 1).tmod (t.length : Int) = at_ + 1) := by
    rw [step_mod hb]; split
    · exact .inl ⟨by assumption, rfl⟩
    · exact .inr ⟨by omega, rfl⟩
  have hd : dist (t.length : Int) ((at_ + 1).tmod (t.length : Int)) (i : Int) = dist (t.length : Int) at_ (i : Int) - 1 ∧ 0 ≤ dist (t.length : Int) ((at_ + 1).tmod (t.length : Int)) (i : Int) := by
    clear a b b2 e c u hu
    generalize (at_ + 1).tmod (t.length : Int) = x at *
    rcases dist_cases (t.length : Int) at_ (i : Int) with ⟨x1, x2⟩ | ⟨x1, x2⟩ <;> rcases dist_cases (t.length : Int) x (i : Int) with ⟨y1, y2⟩ | ⟨y1, y2⟩ <;> rcases hs with ⟨z1, z2⟩ | ⟨z1, z2⟩ <;> omega
  refine ⟨⟨?_, fun q => (by rw [u] at q; cases q), fun _ => ⟨j + 1, e, b2, by omega⟩⟩, by omega, hd.2⟩
  rcases hs with ⟨z1, z2⟩ | ⟨z1, z2⟩ <;> omega
theorem WI.fin {at_ : Int} (h : WI t i at_) (ha : AI t i) (hi : i < t.length) (hn : t.length ≤ 64) (he : at_ = (i : Int)) : AI t (i + 1) := by
  refine ha.next hi ?_
  rintro ⟨u, r⟩
  obtain ⟨j, a, b, c⟩ := h.yes u
  have hh := home_bd (t.getD i default).key (n := (t.length : Int)) (by omega)
  have hj : j < t.length := by
    have hb := h.bd
    clear a b
    generalize home (t.getD i default).key (t.length : Int) = hm at *
    rcases dist_cases (t.length : Int) at_ (i : Int) with ⟨x1, x2⟩ | ⟨x1, x2⟩ <;> rcases dist_cases (t.length : Int) hm (i : Int) with ⟨y1, y2⟩ | ⟨y1, y2⟩ <;> omega
  have := b.yes hj (a.symm.trans he)
  rw [r] at this; cases this
end
end Go.Sx.Tab

/- The walks, printed by a program from the translation and a specification. -/
namespace Go.Proofs.Ythecfjipaepcgaa
open Go.Sx Go.RowKit
set_option maxHeartbeats 8000000 in
set_option maxRecDepth 100000 in
theorem tableCheck_ok (tt : List DSlot) (att : Option Addr) (ctt : Nat) : Fn0 Try.prog 19 [.slice att tt.length ctt] (fun w => Rd tSlot w att ctt tt) (Vi (Tab.check tt)) := by
 refine fn0 (nt := 112) (F0 := [(0, .slice att tt.length ctt)]) Try.func19 rfl Try.ntmps19 rfl rfl (fun w0 hpre => ?_)
 have htt := hpre
 have hlhtt := htt.2.1
 refine c_seq (c_region ?_)
 refine o_as rfl rfl ?_
 refine o_nil (q_then (c_seq (c_seq (c_region ?_))))
 refine o_mv rfl rfl ?_
 refine o_p (p_len_slice rfl rfl Try.underlying22) ?_
 refine o_p (p_eq rfl rfl) ?_
 refine o_nil (q_then ?_)
 refine c_cond rfl (fun hc1 => ?_) (fun hc1 => ?_)
 ·simp only [beq_iff_eq] at hc1
  refine c_seq (c_region ?_)
  refine o_as rfl rfl ?_
  refine o_nil (q_then (c_ret ?_))
  refine q_then_ret ?_
  have hr0 : (1 : Int) = (Tab.check tt) := by
   first | exact Tab.ck1 (by omega) | exact Tab.ck2 (by omega) | exact Tab.ck3 (by omega) (by omega) (Tab.c_bad1 hC (by omega) hu hbad) (by decide) | exact Tab.ck3 (by omega) (by omega) (Tab.c_bad3 hC (by omega) hu hbad) (by decide) | exact Tab.ck3 (by omega) (by omega) (Tab.c_twice hC (by omega) hu hok (by omega) htw) (by decide) | exact Tab.ck4 (by omega) (by omega) hz (hI.bad hA (by omega) (by omega) (by omega) hv) | exact Tab.ck4 (by omega) (by omega) hI.2 (hI.1.done (by omega))
  refine q_end0 (v := Vi 1) (rt1 rfl (r_tmp rfl)) (i := 0) rfl ?_
  exact (by have hcc := congrArg (fun (y0 : Int) => (.int .i64 y0 : Value)) hr0; exact hcc)
 ·simp only [beq_eq_false_iff_ne, ne_eq] at hc1
  refine c_skip (q_then (c_seq (c_seq (c_region ?_))))
  refine o_mv rfl rfl ?_
  refine o_p (p_len_slice rfl rfl Try.underlying22) ?_
  refine o_p (p_gt rfl rfl) ?_
  refine o_nil (q_then ?_)
  refine c_cond rfl (fun hc2 => ?_) (fun hc2 => ?_)
  ·simp only [decide_eq_true_eq] at hc2
   refine c_seq (c_region ?_)
   refine o_as rfl rfl ?_
   refine o_nil (q_then (c_ret ?_))
   refine q_then_ret ?_
   have hr0 : (2 : Int) = (Tab.check tt) := by
    first | exact Tab.ck1 (by omega) | exact Tab.ck2 (by omega) | exact Tab.ck3 (by omega) (by omega) (Tab.c_bad1 hC (by omega) hu hbad) (by decide) | exact Tab.ck3 (by omega) (by omega) (Tab.c_bad3 hC (by omega) hu hbad) (by decide) | exact Tab.ck3 (by omega) (by omega) (Tab.c_twice hC (by omega) hu hok (by omega) htw) (by decide) | exact Tab.ck4 (by omega) (by omega) hz (hI.bad hA (by omega) (by omega) (by omega) hv) | exact Tab.ck4 (by omega) (by omega) hI.2 (hI.1.done (by omega))
   refine q_end0 (v := Vi 2) (rt1 rfl (r_tmp rfl)) (i := 0) rfl ?_
   exact (by have hcc := congrArg (fun (y0 : Int) => (.int .i64 y0 : Value)) hr0; exact hcc)
  ·simp only [decide_eq_false_iff_not, Int.not_lt] at hc2
   refine c_skip (q_then (c_seq (c_seq (c_region ?_))))
   refine o_as rfl rfl ?_
   refine o_nil (q_then (c_block ?_))
   refine c_loop (St := Nat)
    (fun i => [(0, .slice att tt.length ctt), (3, Vi (i : Int))])
    (fun i => [base w0])
    (fun i => Tab.CI tt i)
    (fun i => tt.length - i)
    0 ?_ (sr (sr (Sub.nil _))) (fun _ hw => hw) ?_
   ·exact Tab.CI.start tt
   rintro i hI K hK3
   have hle := hI.le
   show SC _ _ Try.prog 112 w0 _ _ [(0, .slice att tt.length ctt), (3, Vi (i : Int))] [base w0]
   refine c_seq (c_seq (c_region ?_))
   refine o_mv rfl rfl ?_
   refine o_mv rfl rfl ?_
   refine o_p (p_len_slice rfl rfl Try.underlying22) ?_
   refine o_p (p_lt rfl rfl) ?_
   refine o_nil (q_then ?_)
   refine c_cond rfl (fun hc4 => ?_) (fun hc4 => ?_)
   ·simp only [decide_eq_true_eq] at hc4
    refine c_skip (q_then (c_seq (c_block (c_seq (c_seq (c_region ?_))))))
    refine o_mv rfl rfl ?_
    refine o_mv rfl rfl ?_
    refine o_p (p_indexAddr (L := tt) (T := tSlot) (i := (i : Int)) rfl rfl (rd_base (i := 0) rfl htt) Try.underlying22 sz33 (by omega) (by omega)) ?_
    refine o_p (p_fieldAddrE rfl fo33_0) ?_
    refine o_p (p_loadF (i := i) (j := 0) (T := tSlot) (L := tt) (v := .bool ((tt.getD i default).used)) rfl (rd_base (i := 0) rfl htt) (by first | assumption | omega) sh4 (congrArg (fun z => (tSlot.enc z)[0]?) (getd_at (by first | assumption | omega) default))) ?_
    refine o_p (p_not (b := (tt.getD i default).used) rfl) ?_
    refine o_nil (q_then ?_)
    refine c_cond rfl (fun hc5 => ?_) (fun hc5 => ?_)
    ·simp only [Bool.not_eq_true'] at hc5
     have hu := hc5
     have hC := hI
     refine c_seq (c_seq (c_region ?_))
     refine o_mv rfl rfl ?_
     refine o_mv rfl rfl ?_
     refine o_p (p_indexAddr (L := tt) (T := tSlot) (i := (i : Int)) rfl rfl (rd_base (i := 0) rfl htt) Try.underlying22 sz33 (by omega) (by omega)) ?_
     refine o_p (p_fieldAddrE rfl fo33_1) ?_
     refine o_p (p_loadF (i := i) (j := 1) (T := tSlot) (L := tt) (v := .string ((tt.getD i default).key)) rfl (rd_base (i := 0) rfl htt) (by first | assumption | omega) sh9 (congrArg (fun z => (tSlot.enc z)[1]?) (getd_at (by first | assumption | omega) default))) ?_
     refine o_p (p_neStr (s := (tt.getD i default).key) (t := (ByteArray.mk #[])) rfl rfl) ?_
     refine o_mv rfl rfl ?_
     refine o_or (p := 38) 7 ((tt.getD i default).value != 0) ?_ ?_ ?_
     ·intro hb6 hk
      simp only [Bool.not_eq_false', decide_eq_true_eq] at hb6
      refine o_unguard 31 rfl rfl ?_
      refine o_mv rfl rfl ?_
      refine o_unguard 31 rfl rfl ?_
      refine o_mv rfl rfl ?_
      refine o_unguard 31 rfl rfl ?_
      refine o_p (p_indexAddr (L := tt) (T := tSlot) (i := (i : Int)) rfl rfl (rd_base (i := 0) rfl htt) Try.underlying22 sz33 (by omega) (by omega)) ?_
      refine o_unguard 31 rfl rfl ?_
      refine o_p (p_fieldAddrE rfl fo33_2) ?_
      refine o_unguard 31 rfl rfl ?_
      refine o_p (p_loadF (i := i) (j := 2) (T := tSlot) (L := tt) (v := Vi ((tt.getD i default).value)) rfl (rd_base (i := 0) rfl htt) (by first | assumption | omega) sh3 (congrArg (fun z => (tSlot.enc z)[2]?) (getd_at (by first | assumption | omega) default))) ?_
      refine o_unguard 31 rfl rfl ?_
      refine o_p (p_ne rfl rfl) ?_
      refine o_pf rfl rfl rfl ?_
      exact o_sub (sr (Sub.skip rfl (Sub.skip rfl (Sub.skip rfl (Sub.skip rfl (Sub.skip rfl (Sub.skip rfl (Sub.skip rfl (Sub.skip rfl (Sub.refl _)))))))))) hk
     ·intro hb6 hk
      refine o_guard_no rfl 31 rfl rfl rfl rfl rfl ?_
      refine o_guard_no rfl 31 rfl rfl rfl rfl rfl ?_
      refine o_guard_no rfl 31 rfl rfl rfl rfl rfl ?_
      refine o_guard_no rfl 31 rfl rfl rfl rfl rfl ?_
      refine o_guard_no rfl 31 rfl rfl rfl rfl rfl ?_
      refine o_guard_no rfl 31 rfl rfl rfl rfl rfl ?_
      refine o_pt rfl rfl rfl ?_
      exact o_sub (sr (Sub.skip rfl (Sub.skip rfl (Sub.skip rfl (Sub.skip rfl (Sub.skip rfl (Sub.skip rfl (Sub.skip rfl (Sub.skip rfl (Sub.refl _)))))))))) hk
     refine o_nil (q_then ?_)
     refine c_cond rfl (fun hc7 => ?_) (fun hc7 => ?_)
     ·simp only [Bool.or_eq_true, Bool.not_eq_true', decide_eq_false_iff_not, bne_iff_ne, ne_eq] at hc7
      have hbad := hc7
      refine c_seq (c_region ?_)
      refine o_as rfl rfl ?_
      refine o_nil (q_then (c_ret ?_))
      refine q_then_ret (q_then_ret (q_block_ret (q_then_ret (q_then_ret (q_block_ret (q_then_ret ?_))))))
      have hr0 : (1 : Int) = (Tab.check tt) := by
       first | exact Tab.ck1 (by omega) | exact Tab.ck2 (by omega) | exact Tab.ck3 (by omega) (by omega) (Tab.c_bad1 hC (by omega) hu hbad) (by decide) | exact Tab.ck3 (by omega) (by omega) (Tab.c_bad3 hC (by omega) hu hbad) (by decide) | exact Tab.ck3 (by omega) (by omega) (Tab.c_twice hC (by omega) hu hok (by omega) htw) (by decide) | exact Tab.ck4 (by omega) (by omega) hz (hI.bad hA (by omega) (by omega) (by omega) hv) | exact Tab.ck4 (by omega) (by omega) hI.2 (hI.1.done (by omega))
      refine q_end0 (v := Vi 1) (rt1 rfl (r_tmp rfl)) (i := 0) rfl ?_
      exact (by have hcc := congrArg (fun (y0 : Int) => (.int .i64 y0 : Value)) hr0; exact hcc)
     ·simp only [Bool.or_eq_false_iff, Bool.not_eq_false', decide_eq_true_eq, bne_eq_false_iff_eq] at hc7
      have hz0 := hc7
      refine c_skip (q_then ?_)
      refine c_exit ?_
      refine q_then_exit (q_block_exit (q_then ?_))
      refine c_region ?_
      refine o_mv rfl rfl ?_
      refine o_p (p_addb rfl rfl (by omega)) ?_
      refine o_as rfl rfl ?_
      refine o_nil ?_
      refine q_round hK3 (i + 1) ?_ ?_ ?_ ?_
      ·clear hK3
       first | exact Tab.c_skip hC (by omega) hu hz0 | exact Tab.c_next hC (by omega) hu hok (fun j hj => hI.2 j (by omega))
      ·(try dsimp only); omega
      ·exact sr (sr (Sub.nil _))
      ·exact pk [0]
    ·simp only [Bool.not_eq_false'] at hc5
     have hu := hc5
     have hC := hI
     refine c_skip (q_then (c_seq (c_seq (c_region ?_))))
     refine o_mv rfl rfl ?_
     refine o_mv rfl rfl ?_
     refine o_p (p_indexAddr (L := tt) (T := tSlot) (i := (i : Int)) rfl rfl (rd_base (i := 0) rfl htt) Try.underlying22 sz33 (by omega) (by omega)) ?_
     refine o_p (p_fieldAddrE rfl fo33_1) ?_
     refine o_p (p_loadF (i := i) (j := 1) (T := tSlot) (L := tt) (v := .string ((tt.getD i default).key)) rfl (rd_base (i := 0) rfl htt) (by first | assumption | omega) sh9 (congrArg (fun z => (tSlot.enc z)[1]?) (getd_at (by first | assumption | omega) default))) ?_
     refine o_p (p_len_string rfl rfl Try.underlying9) ?_
     refine o_p (p_gt rfl rfl) ?_
     refine o_mv rfl rfl ?_
     refine o_or (p := 54) 8 (!(Ref.between ((tt.getD i default).value) ((-1099511627776) : Int) (1099511627776 : Int))) ?_ ?_ ?_
     ·intro hb8 hk
      simp only [decide_eq_false_iff_not, Int.not_lt] at hb8
      refine o_unguard 46 rfl rfl ?_
      refine o_mv rfl rfl ?_
      refine o_unguard 46 rfl rfl ?_
      refine o_mv rfl rfl ?_
      refine o_unguard 46 rfl rfl ?_
      refine o_p (p_indexAddr (L := tt) (T := tSlot) (i := (i : Int)) rfl rfl (rd_base (i := 0) rfl htt) Try.underlying22 sz33 (by omega) (by omega)) ?_
      refine o_unguard 46 rfl rfl ?_
      refine o_p (p_fieldAddrE rfl fo33_2) ?_
      refine o_unguard 46 rfl rfl ?_
      refine o_p (p_loadF (i := i) (j := 2) (T := tSlot) (L := tt) (v := Vi ((tt.getD i default).value)) rfl (rd_base (i := 0) rfl htt) (by first | assumption | omega) sh3 (congrArg (fun z => (tSlot.enc z)[2]?) (getd_at (by first | assumption | omega) default))) ?_
      refine o_unguard 46 rfl rfl ?_
      refine o_call0 (v := .bool (Ref.between ((tt.getD i default).value) ((-1099511627776) : Int) (1099511627776 : Int))) rfl (between_ok ((tt.getD i default).value) ((-1099511627776) : Int) (1099511627776 : Int)) hf61 (fun _ _ => trivial) rfl ?_
      refine o_unguard 46 rfl rfl ?_
      refine o_p (p_not (b := (Ref.between ((tt.getD i default).value) ((-1099511627776) : Int) (1099511627776 : Int))) rfl) ?_
      refine o_pf rfl rfl rfl ?_
      exact o_sub (sr (Sub.skip rfl (Sub.skip rfl (Sub.skip rfl (Sub.skip rfl (Sub.skip rfl (Sub.skip rfl (Sub.skip rfl (Sub.skip rfl (Sub.skip rfl (Sub.refl _))))))))))) hk
     ·intro hb8 hk
      refine o_guard_no rfl 46 rfl rfl rfl rfl rfl ?_
      refine o_guard_no rfl 46 rfl rfl rfl rfl rfl ?_
      refine o_guard_no rfl 46 rfl rfl rfl rfl rfl ?_
      refine o_guard_no rfl 46 rfl rfl rfl rfl rfl ?_
      refine o_guard_no rfl 46 rfl rfl rfl rfl rfl ?_
      refine o_guard_no rfl 46 rfl rfl rfl rfl rfl ?_
      refine o_guard_no rfl 46 rfl rfl rfl rfl rfl ?_
      refine o_pt rfl rfl rfl ?_
      exact o_sub (sr (Sub.skip rfl (Sub.skip rfl (Sub.skip rfl (Sub.skip rfl (Sub.skip rfl (Sub.skip rfl (Sub.skip rfl (Sub.skip rfl (Sub.skip rfl (Sub.refl _))))))))))) hk
     refine o_nil (q_then ?_)
     refine c_cond rfl (fun hc9 => ?_) (fun hc9 => ?_)
     ·simp only [Bool.or_eq_true, decide_eq_true_eq, Bool.not_eq_true'] at hc9
      have hbad := hc9
      refine c_seq (c_region ?_)
      refine o_as rfl rfl ?_
      refine o_nil (q_then (c_ret ?_))
      refine q_then_ret (q_block_ret (q_then_ret (q_then_ret (q_block_ret (q_then_ret ?_)))))
      have hr0 : (3 : Int) = (Tab.check tt) := by
       first | exact Tab.ck1 (by omega) | exact Tab.ck2 (by omega) | exact Tab.ck3 (by omega) (by omega) (Tab.c_bad1 hC (by omega) hu hbad) (by decide) | exact Tab.ck3 (by omega) (by omega) (Tab.c_bad3 hC (by omega) hu hbad) (by decide) | exact Tab.ck3 (by omega) (by omega) (Tab.c_twice hC (by omega) hu hok (by omega) htw) (by decide) | exact Tab.ck4 (by omega) (by omega) hz (hI.bad hA (by omega) (by omega) (by omega) hv) | exact Tab.ck4 (by omega) (by omega) hI.2 (hI.1.done (by omega))
      refine q_end0 (v := Vi 3) (rt1 rfl (r_tmp rfl)) (i := 0) rfl ?_
      exact (by have hcc := congrArg (fun (y0 : Int) => (.int .i64 y0 : Value)) hr0; exact hcc)
     ·simp only [Bool.or_eq_false_iff, decide_eq_false_iff_not, Int.not_lt, Bool.not_eq_false'] at hc9
      have hok := hc9
      refine c_skip (q_then (c_seq (c_region ?_)))
      refine o_as rfl rfl ?_
      refine o_nil (q_then (c_block ?_))
      refine c_loop (St := Nat)
       (fun k => [(0, .slice att tt.length ctt), (3, Vi (i : Int)), (4, Vi (k : Int))])
       (fun k => [base w0])
       (fun k => k ≤ i ∧ ∀ j, j < k → ¬ ((tt.getD j default).used = true ∧ (tt.getD j default).key = (tt.getD i default).key))
       (fun k => i - k)
       0 ?_ (sr (sr (sr (Sub.nil _)))) (fun _ hw => hw) ?_
      ·exact ⟨Nat.zero_le _, fun j h => absurd h (Nat.not_lt_zero j)⟩
      rintro k hI K hK10
      show SC _ _ Try.prog 112 w0 _ _ [(0, .slice att tt.length ctt), (3, Vi (i : Int)), (4, Vi (k : Int))] [base w0]
      refine c_seq (c_seq (c_region ?_))
      refine o_mv rfl rfl ?_
      refine o_mv rfl rfl ?_
      refine o_p (p_lt rfl rfl) ?_
      refine o_nil (q_then ?_)
      refine c_cond rfl (fun hc11 => ?_) (fun hc11 => ?_)
      ·simp only [decide_eq_true_eq] at hc11
       refine c_skip (q_then (c_seq (c_block (c_seq ?_))))
       refine c_draw hmix (by kernel_rfl) ?_
       refine w_mv rfl rfl ?_
       refine w_mv rfl rfl ?_
       refine w_p (p_indexAddr (L := tt) (T := tSlot) (i := (k : Int)) rfl rfl (rd_base (i := 0) rfl htt) Try.underlying22 sz33 (by omega) (by omega)) ?_
       refine w_p (p_fieldAddrE rfl fo33_0) ?_
       refine w_p (p_loadF (i := k) (j := 0) (T := tSlot) (L := tt) (v := .bool ((tt.getD k default).used)) rfl (rd_base (i := 0) rfl htt) (by first | assumption | omega) sh4 (congrArg (fun z => (tSlot.enc z)[0]?) (getd_at (by first | assumption | omega) default))) ?_
       refine w_mv rfl rfl ?_
       refine w_and (p := 77) 12 (decide ((tt.getD k default).key = (tt.getD i default).key)) ?_ ?_ ?_
       ·intro hb12 hk
        skip
        refine w_unguard 65 rfl rfl ?_
        refine w_mv rfl rfl ?_
        refine w_unguard 65 rfl rfl ?_
        refine w_mv rfl rfl ?_
        refine w_unguard 65 rfl rfl ?_
        refine w_p (p_indexAddr (L := tt) (T := tSlot) (i := (k : Int)) rfl rfl (rd_base (i := 0) rfl htt) Try.underlying22 sz33 (by omega) (by omega)) ?_
        refine w_unguard 65 rfl rfl ?_
        refine w_p (p_fieldAddrE rfl fo33_1) ?_
        refine w_unguard 65 rfl rfl ?_
        refine w_p (p_loadF (i := k) (j := 1) (T := tSlot) (L := tt) (v := .string ((tt.getD k default).key)) rfl (rd_base (i := 0) rfl htt) (by first | assumption | omega) sh9 (congrArg (fun z => (tSlot.enc z)[1]?) (getd_at (by first | assumption | omega) default))) ?_
        refine w_unguard 65 rfl rfl ?_
        refine w_mv rfl rfl ?_
        refine w_unguard 65 rfl rfl ?_
        refine w_mv rfl rfl ?_
        refine w_unguard 65 rfl rfl ?_
        refine w_p (p_indexAddr (L := tt) (T := tSlot) (i := (i : Int)) rfl rfl (rd_base (i := 0) rfl htt) Try.underlying22 sz33 (by omega) (by omega)) ?_
        refine w_unguard 65 rfl rfl ?_
        refine w_p (p_fieldAddrE rfl fo33_1) ?_
        refine w_unguard 65 rfl rfl ?_
        refine w_p (p_loadF (i := i) (j := 1) (T := tSlot) (L := tt) (v := .string ((tt.getD i default).key)) rfl (rd_base (i := 0) rfl htt) (by first | assumption | omega) sh9 (congrArg (fun z => (tSlot.enc z)[1]?) (getd_at (by first | assumption | omega) default))) ?_
        refine w_unguard 65 rfl rfl ?_
        refine w_p (p_eqStr (s := (tt.getD k default).key) (t := (tt.getD i default).key) rfl rfl) ?_
        refine w_pt rfl rfl rfl ?_
        exact w_sub (sr (Sub.skip rfl (Sub.skip rfl (Sub.skip rfl (Sub.skip rfl (Sub.skip rfl (Sub.skip rfl (Sub.skip rfl (Sub.skip rfl (Sub.skip rfl (Sub.skip rfl (Sub.skip rfl (Sub.skip rfl (Sub.skip rfl (Sub.refl _))))))))))))))) hk
       ·intro hb12 hk
        refine w_guard_no rfl 65 rfl rfl rfl rfl rfl ?_
        refine w_guard_no rfl 65 rfl rfl rfl rfl rfl ?_
        refine w_guard_no rfl 65 rfl rfl rfl rfl rfl ?_
        refine w_guard_no rfl 65 rfl rfl rfl rfl rfl ?_
        refine w_guard_no rfl 65 rfl rfl rfl rfl rfl ?_
        refine w_guard_no rfl 65 rfl rfl rfl rfl rfl ?_
        refine w_guard_no rfl 65 rfl rfl rfl rfl rfl ?_
        refine w_guard_no rfl 65 rfl rfl rfl rfl rfl ?_
        refine w_guard_no rfl 65 rfl rfl rfl rfl rfl ?_
        refine w_guard_no rfl 65 rfl rfl rfl rfl rfl ?_
        refine w_guard_no rfl 65 rfl rfl rfl rfl rfl ?_
        refine w_pf rfl rfl rfl ?_
        exact w_sub (sr (Sub.skip rfl (Sub.skip rfl (Sub.skip rfl (Sub.skip rfl (Sub.skip rfl (Sub.skip rfl (Sub.skip rfl (Sub.skip rfl (Sub.skip rfl (Sub.skip rfl (Sub.skip rfl (Sub.skip rfl (Sub.skip rfl (Sub.refl _))))))))))))))) hk
       refine w_nil (q_then ?_)
       refine c_cond rfl (fun hc13 => ?_) (fun hc13 => ?_)
       ·simp only [Bool.and_eq_true, decide_eq_true_eq] at hc13
        have htw := hc13
        refine c_seq (c_region ?_)
        refine o_as rfl rfl ?_
        refine o_nil (q_then (c_ret ?_))
        refine q_block_ret (q_then_ret (q_then_ret (q_block_ret (q_block_ret (q_then_ret (q_then_ret (q_block_ret (q_then_ret ?_))))))))
        have hr0 : (6 : Int) = (Tab.check tt) := by
         first | exact Tab.ck1 (by omega) | exact Tab.ck2 (by omega) | exact Tab.ck3 (by omega) (by omega) (Tab.c_bad1 hC (by omega) hu hbad) (by decide) | exact Tab.ck3 (by omega) (by omega) (Tab.c_bad3 hC (by omega) hu hbad) (by decide) | exact Tab.ck3 (by omega) (by omega) (Tab.c_twice hC (by omega) hu hok (by omega) htw) (by decide) | exact Tab.ck4 (by omega) (by omega) hz (hI.bad hA (by omega) (by omega) (by omega) hv) | exact Tab.ck4 (by omega) (by omega) hI.2 (hI.1.done (by omega))
        refine q_end0 (v := Vi 6) (rt1 rfl (r_tmp rfl)) (i := 0) rfl ?_
        exact (by have hcc := congrArg (fun (y0 : Int) => (.int .i64 y0 : Value)) hr0; exact hcc)
       ·simp only [Bool.and_eq_false_iff, decide_eq_false_iff_not] at hc13
        have htw := hc13
        refine c_skip ?_
        refine q_block_normal (q_then ?_)
        refine c_region ?_
        refine o_mv rfl rfl ?_
        refine o_p (p_addb rfl rfl (by omega)) ?_
        refine o_as rfl rfl ?_
        refine o_nil ?_
        refine q_round hK10 (k + 1) ?_ ?_ ?_ ?_
        ·clear hK10
         refine ⟨by omega, fun j hj => ?_⟩
         rcases Nat.lt_or_ge j k with q | q
         ·exact hI.2 j q
         ·rw [show j = k by omega]; first | exact htw | (rintro ⟨a, b⟩; rcases htw with c | c <;> simp_all)
        ·(try dsimp only); omega
        ·exact sr (sr (sr (Sub.nil _)))
        ·exact pk [0]
      ·simp only [decide_eq_false_iff_not, Int.not_lt] at hc11
       refine c_exit ?_
       refine q_then_exit (q_then_exit (q_block_exit (q_block_normal (q_then ?_))))
       refine c_region ?_
       refine o_mv rfl rfl ?_
       refine o_p (p_addb rfl rfl (by omega)) ?_
       refine o_as rfl rfl ?_
       refine o_nil ?_
       refine q_round hK3 (i + 1) ?_ ?_ ?_ ?_
       ·clear hK3
        first | exact Tab.c_skip hC (by omega) hu hz0 | exact Tab.c_next hC (by omega) hu hok (fun j hj => hI.2 j (by omega))
       ·(try dsimp only); omega
       ·exact sr (sr (Sub.nil _))
       ·exact pk [0]
   ·simp only [decide_eq_false_iff_not, Int.not_lt] at hc4
    refine c_exit ?_
    refine q_then_exit (q_then_exit (q_block_exit (q_then ?_)))
    refine c_seq (c_seq (c_region ?_))
    refine o_as rfl rfl ?_
    refine o_nil (q_then (c_block ?_))
    refine c_loop (St := Nat)
     (fun i => [(0, .slice att tt.length ctt), (5, Vi (i : Int))])
     (fun i => [base w0])
     (fun i => Tab.AI tt i ∧ Tab.checkGo [] tt = 0)
     (fun i => tt.length - i)
     0 ?_ (sr (sr (Sub.nil _))) (fun _ hw => hw) ?_
    ·exact ⟨Tab.AI.start tt, hI.done (by omega)⟩
    rintro i hI K hK14
    obtain ⟨hA, hz⟩ := id hI
    have hle := hA.le
    show SC _ _ Try.prog 112 w0 _ _ [(0, .slice att tt.length ctt), (5, Vi (i : Int))] [base w0]
    refine c_seq (c_seq (c_region ?_))
    refine o_mv rfl rfl ?_
    refine o_mv rfl rfl ?_
    refine o_p (p_len_slice rfl rfl Try.underlying22) ?_
    refine o_p (p_lt rfl rfl) ?_
    refine o_nil (q_then ?_)
    refine c_cond rfl (fun hc15 => ?_) (fun hc15 => ?_)
    ·simp only [decide_eq_true_eq] at hc15
     refine c_skip (q_then (c_seq (c_block (c_seq (c_region ?_)))))
     refine o_mv rfl rfl ?_
     refine o_as rfl rfl ?_
     refine o_nil (q_then (c_seq (c_seq (c_region ?_))))
     refine o_mv rfl rfl ?_
     refine o_mv rfl rfl ?_
     refine o_p (p_indexAddr (L := tt) (T := tSlot) (i := (i : Int)) rfl rfl (rd_base (i := 0) rfl htt) Try.underlying22 sz33 (by omega) (by omega)) ?_
     refine o_p (p_fieldAddrE rfl fo33_0) ?_
     refine o_p (p_loadF (i := i) (j := 0) (T := tSlot) (L := tt) (v := .bool ((tt.getD i default).used)) rfl (rd_base (i := 0) rfl htt) (by first | assumption | omega) sh4 (congrArg (fun z => (tSlot.enc z)[0]?) (getd_at (by first | assumption | omega) default))) ?_
     refine o_nil (q_then ?_)
     refine c_cond rfl (fun hc16 => ?_) (fun hc16 => ?_)
     ·skip
      have hu := hc16
      have hC := hI
      refine c_region ?_
      refine o_mv rfl rfl ?_
      refine o_mv rfl rfl ?_
      refine o_p (p_indexAddr (L := tt) (T := tSlot) (i := (i : Int)) rfl rfl (rd_base (i := 0) rfl htt) Try.underlying22 sz33 (by omega) (by omega)) ?_
      refine o_p (p_fieldAddrE rfl fo33_1) ?_
      refine o_p (p_loadF (i := i) (j := 1) (T := tSlot) (L := tt) (v := .string ((tt.getD i default).key)) rfl (rd_base (i := 0) rfl htt) (by first | assumption | omega) sh9 (congrArg (fun z => (tSlot.enc z)[1]?) (getd_at (by first | assumption | omega) default))) ?_
      refine o_mv rfl rfl ?_
      refine o_p (p_len_slice rfl rfl Try.underlying22) ?_
      refine o_call0 (v := Vi (Tab.home ((tt.getD i default).key) (tt.length : Int))) rfl (homeOf_ok ((tt.getD i default).key) (tt.length : Int) (by first | assumption | omega | exact Tab.key_le hz (by omega) | exact hy1.2)) hf21 (fun _ _ => trivial) rfl ?_
      refine o_as rfl rfl ?_
      refine o_nil (q_then (c_block ?_))
      refine c_loop (St := Int)
       (fun at_ => [(0, .slice att tt.length ctt), (5, Vi (i : Int)), (6, Vi at_)])
       (fun at_ => [base w0])
       (fun at_ => Tab.WI tt i at_)
       (fun at_ => (Tab.dist (tt.length : Int) at_ (i : Int)).toNat)
       (Tab.home ((tt.getD i default).key) (tt.length : Int)) ?_ (sr (sr (sr (Sub.nil _)))) (fun _ hw => hw) ?_
      ·first | exact Tab.WI.start_no (by omega) hu | exact Tab.WI.start (by omega) (by omega) hu
      rintro at_ hI K hK17
      have hab := hI.bd
      show SC _ _ Try.prog 112 w0 _ _ [(0, .slice att tt.length ctt), (5, Vi (i : Int)), (6, Vi at_)] [base w0]
      refine c_seq (c_seq (c_region ?_))
      refine o_mv rfl rfl ?_
      refine o_mv rfl rfl ?_
      refine o_p (p_ne rfl rfl) ?_
      refine o_nil (q_then ?_)
      refine c_cond rfl (fun hc18 => ?_) (fun hc18 => ?_)
      ·simp only [bne_iff_ne, ne_eq] at hc18
       refine c_skip (q_then (c_block (c_seq (c_seq (c_region ?_)))))
       refine o_mv rfl rfl ?_
       refine o_mv rfl rfl ?_
       refine o_p (p_indexAddr (L := tt) (T := tSlot) (i := at_) rfl rfl (rd_base (i := 0) rfl htt) Try.underlying22 sz33 (by omega) (by omega)) ?_
       refine o_p (p_fieldAddrE rfl fo33_0) ?_
       refine o_p (p_loadF (i := at_.toNat) (j := 0) (T := tSlot) (L := tt) (v := .bool ((tt.getD at_.toNat default).used)) rfl (rd_base (i := 0) rfl htt) (by first | assumption | omega) sh4 (congrArg (fun z => (tSlot.enc z)[0]?) (getd_at (by first | assumption | omega) default))) ?_
       refine o_p (p_not (b := (tt.getD at_.toNat default).used) rfl) ?_
       refine o_nil (q_then ?_)
       refine c_cond rfl (fun hc19 => ?_) (fun hc19 => ?_)
       ·simp only [Bool.not_eq_true'] at hc19
        have hv := hc19
        refine c_seq (c_region ?_)
        refine o_as rfl rfl ?_
        refine o_nil (q_then (c_ret ?_))
        refine q_then_ret (q_block_ret (q_then_ret (q_block_ret (q_block_ret (q_then_ret (q_then_ret (q_block_ret (q_then_ret ?_))))))))
        have hr0 : (4 : Int) = (Tab.check tt) := by
         first | exact Tab.ck1 (by omega) | exact Tab.ck2 (by omega) | exact Tab.ck3 (by omega) (by omega) (Tab.c_bad1 hC (by omega) hu hbad) (by decide) | exact Tab.ck3 (by omega) (by omega) (Tab.c_bad3 hC (by omega) hu hbad) (by decide) | exact Tab.ck3 (by omega) (by omega) (Tab.c_twice hC (by omega) hu hok (by omega) htw) (by decide) | exact Tab.ck4 (by omega) (by omega) hz (hI.bad hA (by omega) (by omega) (by omega) hv) | exact Tab.ck4 (by omega) (by omega) hI.2 (hI.1.done (by omega))
        refine q_end0 (v := Vi 4) (rt1 rfl (r_tmp rfl)) (i := 0) rfl ?_
        exact (by have hcc := congrArg (fun (y0 : Int) => (.int .i64 y0 : Value)) hr0; exact hcc)
       ·simp only [Bool.not_eq_false'] at hc19
        have hv := hc19
        refine c_skip (q_then (c_region ?_))
        refine o_mv rfl rfl ?_
        refine o_p (p_addb rfl rfl (by omega)) ?_
        refine o_mv rfl rfl ?_
        refine o_p (p_len_slice rfl rfl Try.underlying22) ?_
        refine o_p (p_rem (p := (at_ + 1)) (q := (tt.length : Int)) rfl rfl (by omega)) ?_
        refine o_as rfl rfl ?_
        refine o_nil ?_
        refine q_block_normal ?_
        refine q_round hK17 ((at_ + 1).tmod (tt.length : Int)) ?_ ?_ ?_ ?_
        ·clear hK17
         exact (hI.next (by omega) (by omega) (by omega) hv).1
        ·(try dsimp only); have h9 := (hI.next (by omega) (by omega) (by omega) hv).2; omega
        ·exact sr (sr (sr (Sub.nil _)))
        ·exact pk [0]
      ·simp only [bne_eq_false_iff_eq] at hc18
       refine c_exit ?_
       refine q_then_exit (q_then_exit (q_block_exit (q_block_normal (q_then ?_))))
       refine c_region ?_
       refine o_mv rfl rfl ?_
       refine o_p (p_addb rfl rfl (by omega)) ?_
       refine o_as rfl rfl ?_
       refine o_nil ?_
       refine q_round hK14 (i + 1) ?_ ?_ ?_ ?_
       ·clear hK14
        exact ⟨hI.fin hA (by omega) (by omega) (by omega), hz⟩
       ·(try dsimp only); omega
       ·exact sr (sr (Sub.nil _))
       ·exact pk [0]
     ·skip
      have hu := hc16
      have hC := hI
      refine c_skip (q_then (c_block ?_))
      refine c_loop (St := Int)
       (fun at_ => [(0, .slice att tt.length ctt), (5, Vi (i : Int)), (6, Vi at_)])
       (fun at_ => [base w0])
       (fun at_ => Tab.WI tt i at_)
       (fun at_ => (Tab.dist (tt.length : Int) at_ (i : Int)).toNat)
       (i : Int) ?_ (sr (sr (sr (Sub.nil _)))) (fun _ hw => hw) ?_
      ·first | exact Tab.WI.start_no (by omega) hu | exact Tab.WI.start (by omega) (by omega) hu
      rintro at_ hI K hK20
      have hab := hI.bd
      show SC _ _ Try.prog 112 w0 _ _ [(0, .slice att tt.length ctt), (5, Vi (i : Int)), (6, Vi at_)] [base w0]
      refine c_seq (c_seq (c_region ?_))
      refine o_mv rfl rfl ?_
      refine o_mv rfl rfl ?_
      refine o_p (p_ne rfl rfl) ?_
      refine o_nil (q_then ?_)
      refine c_cond rfl (fun hc21 => ?_) (fun hc21 => ?_)
      ·simp only [bne_iff_ne, ne_eq] at hc21
       refine c_skip (q_then (c_block (c_seq (c_seq (c_region ?_)))))
       refine o_mv rfl rfl ?_
       refine o_mv rfl rfl ?_
       refine o_p (p_indexAddr (L := tt) (T := tSlot) (i := at_) rfl rfl (rd_base (i := 0) rfl htt) Try.underlying22 sz33 (by omega) (by omega)) ?_
       refine o_p (p_fieldAddrE rfl fo33_0) ?_
       refine o_p (p_loadF (i := at_.toNat) (j := 0) (T := tSlot) (L := tt) (v := .bool ((tt.getD at_.toNat default).used)) rfl (rd_base (i := 0) rfl htt) (by first | assumption | omega) sh4 (congrArg (fun z => (tSlot.enc z)[0]?) (getd_at (by first | assumption | omega) default))) ?_
       refine o_p (p_not (b := (tt.getD at_.toNat default).used) rfl) ?_
       refine o_nil (q_then ?_)
       refine c_cond rfl (fun hc22 => ?_) (fun hc22 => ?_)
       ·simp only [Bool.not_eq_true'] at hc22
        have hv := hc22
        refine c_seq (c_region ?_)
        refine o_as rfl rfl ?_
        refine o_nil (q_then (c_ret ?_))
        refine q_then_ret (q_block_ret (q_then_ret (q_block_ret (q_block_ret (q_then_ret (q_then_ret (q_block_ret (q_then_ret ?_))))))))
        have hr0 : (4 : Int) = (Tab.check tt) := by
         first | exact Tab.ck1 (by omega) | exact Tab.ck2 (by omega) | exact Tab.ck3 (by omega) (by omega) (Tab.c_bad1 hC (by omega) hu hbad) (by decide) | exact Tab.ck3 (by omega) (by omega) (Tab.c_bad3 hC (by omega) hu hbad) (by decide) | exact Tab.ck3 (by omega) (by omega) (Tab.c_twice hC (by omega) hu hok (by omega) htw) (by decide) | exact Tab.ck4 (by omega) (by omega) hz (hI.bad hA (by omega) (by omega) (by omega) hv) | exact Tab.ck4 (by omega) (by omega) hI.2 (hI.1.done (by omega))
        refine q_end0 (v := Vi 4) (rt1 rfl (r_tmp rfl)) (i := 0) rfl ?_
        exact (by have hcc := congrArg (fun (y0 : Int) => (.int .i64 y0 : Value)) hr0; exact hcc)
       ·simp only [Bool.not_eq_false'] at hc22
        have hv := hc22
        refine c_skip (q_then (c_region ?_))
        refine o_mv rfl rfl ?_
        refine o_p (p_addb rfl rfl (by omega)) ?_
        refine o_mv rfl rfl ?_
        refine o_p (p_len_slice rfl rfl Try.underlying22) ?_
        refine o_p (p_rem (p := (at_ + 1)) (q := (tt.length : Int)) rfl rfl (by omega)) ?_
        refine o_as rfl rfl ?_
        refine o_nil ?_
        refine q_block_normal ?_
        refine q_round hK20 ((at_ + 1).tmod (tt.length : Int)) ?_ ?_ ?_ ?_
        ·clear hK20
         exact (hI.next (by omega) (by omega) (by omega) hv).1
        ·(try dsimp only); have h9 := (hI.next (by omega) (by omega) (by omega) hv).2; omega
        ·exact sr (sr (sr (Sub.nil _)))
        ·exact pk [0]
      ·simp only [bne_eq_false_iff_eq] at hc21
       refine c_exit ?_
       refine q_then_exit (q_then_exit (q_block_exit (q_block_normal (q_then ?_))))
       refine c_region ?_
       refine o_mv rfl rfl ?_
       refine o_p (p_addb rfl rfl (by omega)) ?_
       refine o_as rfl rfl ?_
       refine o_nil ?_
       refine q_round hK14 (i + 1) ?_ ?_ ?_ ?_
       ·clear hK14
        exact ⟨hI.fin hA (by omega) (by omega) (by omega), hz⟩
       ·(try dsimp only); omega
       ·exact sr (sr (Sub.nil _))
       ·exact pk [0]
    ·simp only [decide_eq_false_iff_not, Int.not_lt] at hc15
     refine c_exit ?_
     refine q_then_exit (q_then_exit (q_block_exit (q_then ?_)))
     refine c_seq (c_region ?_)
     refine o_as rfl rfl ?_
     refine o_nil (q_then (c_ret ?_))
     have hr0 : (0 : Int) = (Tab.check tt) := by
      first | exact Tab.ck1 (by omega) | exact Tab.ck2 (by omega) | exact Tab.ck3 (by omega) (by omega) (Tab.c_bad1 hC (by omega) hu hbad) (by decide) | exact Tab.ck3 (by omega) (by omega) (Tab.c_bad3 hC (by omega) hu hbad) (by decide) | exact Tab.ck3 (by omega) (by omega) (Tab.c_twice hC (by omega) hu hok (by omega) htw) (by decide) | exact Tab.ck4 (by omega) (by omega) hz (hI.bad hA (by omega) (by omega) (by omega) hv) | exact Tab.ck4 (by omega) (by omega) hI.2 (hI.1.done (by omega))
     refine q_end0 (v := Vi 0) (rt1 rfl (r_tmp rfl)) (i := 0) rfl ?_
     exact (by have hcc := congrArg (fun (y0 : Int) => (.int .i64 y0 : Value)) hr0; exact hcc)
end Go.Proofs.Ythecfjipaepcgaa

/- Hash tables: the law of the results. -/
namespace Go.Sx.Tab
theorem len_int {m : Nat} (h : 1 ≤ m ∧ m ≤ 64) : 1 ≤ (m : Int) ∧ (m : Int) ≤ 64 := by omega
theorem dist_final {i hm n : Int} {m : Nat} (h : 0 ≤ hm ∧ hm < n) (hi : 0 ≤ i) (e : m = ((i - hm + n).tmod n).toNat) : (i - hm + n).tmod n + 1 = (m : Int) + 1 := by
  have : 0 ≤ (i - hm + n).tmod n := by
    rw [Int.tmod_eq_emod_of_nonneg (by omega)]; exact Int.emod_nonneg _ (by omega)
  omega
section
variable {t : List DSlot} {key : ByteArray} {v n : Int}
theorem s_v0 (key : ByteArray) (h : check t ≠ 0) : check t = keyErr t key ∧ 0 = has t key ∧ 0 = looked t key ∧ [] = delR t key := by
  obtain ⟨a, b, c⟩ := g1 (key := key) h
  exact ⟨c.symm, a.symm, b.symm, (del_bad (by rw [c]; exact h)).symm⟩
theorem s_v1 (h : check t = 0) (h2 : 40 < (key.size : Int)) : 3 = keyErr t key ∧ 0 = has t key ∧ 0 = looked t key ∧ [] = delR t key := by
  obtain ⟨a, b, c⟩ := g2 (key := key) h h2
  exact ⟨c.symm, a.symm, b.symm, (del_bad (by rw [c]; decide)).symm⟩
theorem s_v2 (h : check t = 0) (h2 : (key.size : Int) ≤ 40) (h3 : slotOf t key < 0) : 5 = keyErr t key ∧ 0 = has t key ∧ 0 = looked t key ∧ [] = delR t key := by
  obtain ⟨a, b, c⟩ := g3 (key := key) h h2 (by rw [find_slot (check_ok.1 h)]; exact h3)
  exact ⟨c.symm, a.symm, b.symm, (del_bad (by rw [c]; decide)).symm⟩
theorem s_v3 (h : check t = 0) (h2 : (key.size : Int) ≤ 40) (h3 : 0 ≤ slotOf t key) : check t = keyErr t key ∧ (t.getD (slotOf t key).toNat default).value = has t key ∧ (slotOf t key - home key (t.length : Int) + (t.length : Int)).tmod (t.length : Int) + 1 = looked t key ∧ drop t key = delR t key := by
  have ho := check_ok.1 h
  have e := find_slot ho key
  obtain ⟨a, b, c⟩ := g4 (key := key) h h2 (by rw [e]; exact h3)
  refine ⟨by rw [c]; exact h, by rw [a, e], ?_, (del_ok c rfl).symm⟩
  rw [b]
  rcases slotOf_cases t key with ⟨i, hi, e1, u, k⟩ | ⟨e1, _⟩
  · obtain ⟨m, m1, m2, m3, _⟩ := ho.at_ hi u k
    obtain ⟨d1, d2⟩ := P_dist ho.len key hi
    have em := P_inj ho.len m1 d2 (m2.trans d1.symm)
    rw [m3, e1]
    have hh := home_bd key (n := (t.length : Int)) (len_int ho.len)
    exact dist_final hh (Int.natCast_nonneg i) em
  · rw [e1] at h3; exact absurd h3 (by decide)
theorem s_u0 (key : ByteArray) (v : Int) (h : check t ≠ 0) : check t = putErr t key v ∧ [] = putR t key v := ⟨(p1 h).2.symm, (p1 h).1.symm⟩
theorem val_no (h2 : (40 < (key.size : Int) ∨ v < -1099511627776) ∨ 1099511627776 < v) : 40 < (key.size : Int) ∨ okVal v = false := by
  rcases h2 with (a | a) | a
  · exact .inl a
  · right; unfold okVal; rw [decide_eq_false (by omega)]; rfl
  · right; unfold okVal; rw [decide_eq_false (p := v ≤ 1099511627776) (by omega), Bool.and_false]
theorem val_yes (h2 : ((key.size : Int) ≤ 40 ∧ -1099511627776 ≤ v) ∧ v ≤ 1099511627776) : (key.size : Int) ≤ 40 ∧ okVal v = true := ⟨h2.1.1, by unfold okVal; simp [h2.1.2, h2.2]⟩
theorem s_u1 (h : check t = 0) (h2 : (40 < (key.size : Int) ∨ v < -1099511627776) ∨ 1099511627776 < v) : 3 = putErr t key v ∧ [] = putR t key v := ⟨(p2 h (val_no h2)).2.symm, (p2 h (val_no h2)).1.symm⟩
theorem s_u2 (h : check t = 0) (h2 : ((key.size : Int) ≤ 40 ∧ -1099511627776 ≤ v) ∧ v ≤ 1099511627776) (h3 : putAt t key < 0) : 8 = putErr t key v ∧ putT t key v = putR t key v := ⟨(p3 h (val_yes h2) h3).2.symm, by rw [(p3 h (val_yes h2) h3).1]; exact if_pos h3⟩
theorem s_u3 (h : check t = 0) (h2 : ((key.size : Int) ≤ 40 ∧ -1099511627776 ≤ v) ∧ v ≤ 1099511627776) (h3 : 0 ≤ putAt t key) : check t = putErr t key v ∧ putT t key v = putR t key v := ⟨by rw [(p4 h (val_yes h2) h3).2]; exact h, by rw [(p4 h (val_yes h2) h3).1]; exact if_neg (by omega)⟩
theorem s_o0 (n : Int) (h : check t ≠ 0) : check t = sizeErr t n ∧ [] = sizeR t n := ⟨(z1 h).2.symm, (z1 h).1.symm⟩
theorem s_o1 (h : check t = 0) (h2 : n < 1 ∨ 64 < n) : 3 = sizeErr t n ∧ [] = sizeR t n := ⟨(z2 h h2).2.symm, (z2 h h2).1.symm⟩
end
end Go.Sx.Tab
namespace Go.Sx.Tab
/-- the reference's filling -/
structure GI (t : List DSlot) (n : Int) (g : List DSlot) (o : Int) (i : Nat) : Prop where
  le : i ≤ t.length
  run : o = 0 → ZI t n g i ∧ Ok g
  stop : o ≠ 0 → o = 8 ∧ g = [] ∧ sizeErr t n = 8 ∧ sizeR t n = []
section
variable {t g : List DSlot} {n o : Int} {i : Nat}
theorem GI.start (hn : 1 ≤ n ∧ n ≤ 64) : GI t n (List.replicate n.toNat none_) 0 0 := ⟨Nat.zero_le _, fun _ => ⟨ZI.start t n, ok_empty hn⟩, fun h => absurd rfl h⟩
theorem GI.skip (h : GI t n g o i) (h0 : o = 0) (hi : i < t.length) (hu : t[i].used = false) : GI t n g o (i + 1) := ⟨hi, fun _ => ⟨(h.run h0).1.skip hi hu, (h.run h0).2⟩, fun q => absurd h0 q⟩
theorem GI.add (h : GI t n g o i) (ht : Ok t) (h0 : o = 0) (hi : i < t.length) (hu : t[i].used = true) (hp : 0 ≤ putAt g t[i].key) : GI t n (putT g t[i].key t[i].value) o (i + 1) := by
  have e : putT g t[i].key t[i].value = put g t[i].key t[i].value := if_neg (by omega)
  rw [e]
  have h1 := mem_one ht _ (List.getElem_mem hi)
  obtain ⟨p, p1, f⟩ := put_facts (h.run h0).2 hp
  exact ⟨hi, fun _ => ⟨(h.run h0).1.add hi ⟨hu, hp⟩, by rw [put_eq p1]; exact f.ok (h.run h0).2 (one_key h1) (one_val h1)⟩, fun q => absurd h0 q⟩
theorem GI.full (h : GI t n g o i) (hc : check t = 0) (hn : 1 ≤ n ∧ n ≤ 64) (h0 : o = 0) (hi : i < t.length) (hu : t[i].used = true) (hp : putAt g t[i].key < 0) : GI t n (putT g t[i].key t[i].value) 8 (i + 1) := by
  have e : putT g t[i].key t[i].value = [] := if_pos hp
  have q := (h.run h0).1.bad hc hn hi ⟨hu, hp⟩
  exact ⟨hi, fun q => (by cases q), fun _ => ⟨rfl, e, q.2, q.1⟩⟩
theorem GI.done (h : GI t n g o i) (hc : check t = 0) (hn : 1 ≤ n ∧ n ≤ 64) (hi : t.length ≤ i ∨ o ≠ 0) : o = sizeErr t n ∧ g = sizeR t n := by
  by_cases h0 : o = 0
  · have q := (h.run h0).1.done hc hn (hi.elim id (fun q => absurd h0 q))
    exact ⟨h0.trans q.2.symm, q.1.symm⟩
  · have q := h.stop h0
    exact ⟨q.1.trans q.2.2.1.symm, q.2.1.trans q.2.2.2.symm⟩
end
end Go.Sx.Tab
namespace Go.Sx.Tab
section
variable {t g : List DSlot} {n o : Int} {i : Nat}
theorem GI.start2 (hn : 1 ≤ n ∧ n ≤ 64) (h0 : o = 0) : GI t n (List.replicate n.toNat (⟨false, ByteArray.empty, 0⟩ : DSlot)) o 0 := by subst h0; exact GI.start hn
theorem GI.skip2 (h : GI t n g o i) (h0 : o = 0) (hi : i < t.length) (hu : (t.getD i default).used = false) : GI t n g o (i + 1) := h.skip h0 hi (by rw [getd_eq hi] at hu; exact hu)
theorem GI.add2 (h : GI t n g o i) (ht : Ok t) (h0 : o = 0) (hi : i < t.length) (hu : (t.getD i default).used = true) (hp : 0 ≤ putAt g (t.getD i default).key) : GI t n (putT g (t.getD i default).key (t.getD i default).value) o (i + 1) := by
  rw [getd_eq hi] at *; exact h.add ht h0 hi hu hp
theorem GI.full2 (h : GI t n g o i) (hc : check t = 0) (hn : 1 ≤ n ∧ n ≤ 64) (h0 : o = 0) (hi : i < t.length) (hu : (t.getD i default).used = true) (hp : putAt g (t.getD i default).key < 0) : GI t n (putT g (t.getD i default).key (t.getD i default).value) 8 (i + 1) := by
  rw [getd_eq hi] at *; exact h.full hc hn h0 hi hu hp
theorem not_neg {b : Bool} {p : Int} (h : b = !decide (p < 0)) : (b = true → 0 ≤ p) ∧ (b = false → p < 0) := by
  subst h; constructor <;> intro q <;> simpa using q
theorem GI.ok (h : GI t n g o i) (h0 : o = 0) : Ok g := (h.run h0).2
end
end Go.Sx.Tab
namespace Go.Sx.Tab
theorem in3 {p h n : Int} (hp : 0 ≤ p ∧ p < n) (hh : 0 ≤ h ∧ h < n) (hn : n ≤ 64) : -9223372036854775808 ≤ (p - h + n).tmod n + 1 ∧ (p - h + n).tmod n + 1 ≤ 9223372036854775807 := by
  rw [tm hh hp]; split <;> omega
end Go.Sx.Tab
