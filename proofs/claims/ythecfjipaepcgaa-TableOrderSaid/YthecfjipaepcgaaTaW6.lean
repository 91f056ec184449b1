/- The walks, printed by a program from the translation and a specification. -/
import Derived.Test.YthecfjipaepcgaaTaF
import Derived.Test.YthecfjipaepcgaaTaLaw
import Derived.Test.YthecfjipaepcgaaTaW4
import Derived.Test.YthecfjipaepcgaaTaW5
namespace Go.Proofs.Ythecfjipaepcgaa
open Go.Sx Go.RowKit
set_option maxHeartbeats 8000000 in
set_option maxRecDepth 100000 in
theorem tableBegun_ok  : Fn0 Try.prog 24 [] (fun _ => True) (.bool true) := by
 refine fn0 (nt := 98) (F0 := []) Try.func24 rfl Try.ntmps24 rfl rfl (fun w0 hpre => ?_)
 refine c_seq (c_region ?_)
 refine o_as rfl rfl ?_
 refine o_nil (q_then (c_seq (c_region ?_)))
 refine o_makeSlice (T := tSlot) (m := 3) (z := (⟨false, ByteArray.empty, 0⟩ : DSlot)) rfl rfl Try.underlying22 el33 ze33 rfl (by decide) (by omega) (by omega) rfl (fun S2 a1 => ?_)
 refine o_callM rfl (tPut_ok (List.replicate 3 (⟨false, ByteArray.empty, 0⟩ : DSlot)) a1 3 (ByteArray.mk #[97]) (5 : Int)) hf16 (fun w hw => (rd_own (i := 0) rfl) w hw) rfl (fun _ _ _ _ ha hA => SlO.agree ha hA) ?_
 rintro ⟨a6, c7⟩ S4
 refine o_know (fun w hw => own_len (i := 0) (T := tSlot) hw rfl) (fun hlr8 => ?_)
 refine o_mv rfl rfl ?_
 refine o_ex rfl rfl rfl ?_
 refine o_ex rfl rfl rfl ?_
 refine o_as rfl rfl ?_
 refine o_as rfl rfl ?_
 refine o_nil (q_then (c_seq (c_region ?_)))
 refine o_mv rfl rfl ?_
 refine o_callM rfl (tPut_ok (Tab.putR (List.replicate 3 (⟨false, ByteArray.empty, 0⟩ : DSlot)) (ByteArray.mk #[97]) (5 : Int)) a6 c7 (ByteArray.mk #[98]) (6 : Int)) hf16 (fun w hw => (rd_own (i := 0) rfl) w hw) rfl (fun _ _ _ _ ha hA => SlO.agree ha hA) ?_
 rintro ⟨a11, c12⟩ S9
 refine o_know (fun w hw => own_len (i := 0) (T := tSlot) hw rfl) (fun hlr13 => ?_)
 refine o_mv rfl rfl ?_
 refine o_ex rfl rfl rfl ?_
 refine o_ex rfl rfl rfl ?_
 refine o_as rfl rfl ?_
 refine o_as rfl rfl ?_
 refine o_nil (q_then (c_seq (c_region ?_)))
 refine o_mv rfl rfl ?_
 refine o_call0 (v := .tuple #[Vi (Tab.has (Tab.putR (Tab.putR (List.replicate 3 (⟨false, ByteArray.empty, 0⟩ : DSlot)) (ByteArray.mk #[97]) (5 : Int)) (ByteArray.mk #[98]) (6 : Int)) (ByteArray.mk #[98])), Vi (Tab.looked (Tab.putR (Tab.putR (List.replicate 3 (⟨false, ByteArray.empty, 0⟩ : DSlot)) (ByteArray.mk #[97]) (5 : Int)) (ByteArray.mk #[98]) (6 : Int)) (ByteArray.mk #[98])), Vi (Tab.keyErr (Tab.putR (Tab.putR (List.replicate 3 (⟨false, ByteArray.empty, 0⟩ : DSlot)) (ByteArray.mk #[97]) (5 : Int)) (ByteArray.mk #[98]) (6 : Int)) (ByteArray.mk #[98]))]) rfl (tget_ok (Tab.putR (Tab.putR (List.replicate 3 (⟨false, ByteArray.empty, 0⟩ : DSlot)) (ByteArray.mk #[97]) (5 : Int)) (ByteArray.mk #[98]) (6 : Int)) a11 c12 (ByteArray.mk #[98])) hf15 (fun w hw => (rd_own (i := 0) rfl) w hw) rfl ?_
 refine o_mv rfl rfl ?_
 refine o_ex rfl rfl rfl ?_
 refine o_ex rfl rfl rfl ?_
 refine o_ex rfl rfl rfl ?_
 refine o_as rfl rfl ?_
 refine o_as rfl rfl ?_
 refine o_as rfl rfl ?_
 refine o_nil (q_then (c_seq (c_region ?_)))
 refine o_mv rfl rfl ?_
 refine o_callM rfl (tdelete_ok (Tab.putR (Tab.putR (List.replicate 3 (⟨false, ByteArray.empty, 0⟩ : DSlot)) (ByteArray.mk #[97]) (5 : Int)) (ByteArray.mk #[98]) (6 : Int)) a11 c12 (ByteArray.mk #[97])) hf17 (fun w hw => (rd_own (i := 0) rfl) w hw) rfl (fun _ _ _ _ ha hA => SlO.agree ha hA) ?_
 rintro ⟨a16, c17⟩ S14
 refine o_know (fun w hw => own_len (i := 0) (T := tSlot) hw rfl) (fun hlr18 => ?_)
 refine o_mv rfl rfl ?_
 refine o_ex rfl rfl rfl ?_
 refine o_ex rfl rfl rfl ?_
 refine o_as rfl rfl ?_
 refine o_as rfl rfl ?_
 refine o_nil (q_then (c_seq (c_region ?_)))
 refine o_mv rfl rfl ?_
 refine o_call0 (v := .tuple #[Vi (Tab.has (Tab.delR (Tab.putR (Tab.putR (List.replicate 3 (⟨false, ByteArray.empty, 0⟩ : DSlot)) (ByteArray.mk #[97]) (5 : Int)) (ByteArray.mk #[98]) (6 : Int)) (ByteArray.mk #[97])) (ByteArray.mk #[97])), Vi (Tab.looked (Tab.delR (Tab.putR (Tab.putR (List.replicate 3 (⟨false, ByteArray.empty, 0⟩ : DSlot)) (ByteArray.mk #[97]) (5 : Int)) (ByteArray.mk #[98]) (6 : Int)) (ByteArray.mk #[97])) (ByteArray.mk #[97])), Vi (Tab.keyErr (Tab.delR (Tab.putR (Tab.putR (List.replicate 3 (⟨false, ByteArray.empty, 0⟩ : DSlot)) (ByteArray.mk #[97]) (5 : Int)) (ByteArray.mk #[98]) (6 : Int)) (ByteArray.mk #[97])) (ByteArray.mk #[97]))]) rfl (tget_ok (Tab.delR (Tab.putR (Tab.putR (List.replicate 3 (⟨false, ByteArray.empty, 0⟩ : DSlot)) (ByteArray.mk #[97]) (5 : Int)) (ByteArray.mk #[98]) (6 : Int)) (ByteArray.mk #[97])) a16 c17 (ByteArray.mk #[97])) hf15 (fun w hw => (rd_own (i := 0) rfl) w hw) rfl ?_
 refine o_mv rfl rfl ?_
 refine o_ex rfl rfl rfl ?_
 refine o_ex rfl rfl rfl ?_
 refine o_ex rfl rfl rfl ?_
 refine o_as rfl rfl ?_
 refine o_as rfl rfl ?_
 refine o_as rfl rfl ?_
 refine o_nil (q_then (c_seq (c_region ?_)))
 refine o_mv rfl rfl ?_
 refine o_callM rfl (tresize_ok (Tab.delR (Tab.putR (Tab.putR (List.replicate 3 (⟨false, ByteArray.empty, 0⟩ : DSlot)) (ByteArray.mk #[97]) (5 : Int)) (ByteArray.mk #[98]) (6 : Int)) (ByteArray.mk #[97])) a16 c17 (1 : Int)) hf18 (fun w hw => (rd_own (i := 0) rfl) w hw) rfl (fun _ _ _ _ ha hA => SlO.agree ha hA) ?_
 rintro ⟨a21, c22⟩ S19
 refine o_know (fun w hw => own_len (i := 0) (T := tSlot) hw rfl) (fun hlr23 => ?_)
 refine o_mv rfl rfl ?_
 refine o_ex rfl rfl rfl ?_
 refine o_ex rfl rfl rfl ?_
 refine o_as rfl rfl ?_
 refine o_as rfl rfl ?_
 refine o_nil (q_then (c_seq (c_region ?_)))
 refine o_mv rfl rfl ?_
 refine o_p (p_eq rfl rfl) ?_
 refine o_mv rfl rfl ?_
 refine o_and (p := 51) 3 ((Tab.putErr (Tab.putR (List.replicate 3 (⟨false, ByteArray.empty, 0⟩ : DSlot)) (ByteArray.mk #[97]) (5 : Int)) (ByteArray.mk #[98]) (6 : Int)) == 0) ?_ ?_ ?_
 ·intro hb24 hk
  simp only [beq_iff_eq] at hb24
  refine o_unguard 48 rfl rfl ?_
  refine o_mv rfl rfl ?_
  refine o_unguard 48 rfl rfl ?_
  refine o_p (p_eq rfl rfl) ?_
  refine o_pt rfl rfl rfl ?_
  exact o_sub (sr (Sub.skip rfl (Sub.skip rfl (Sub.skip rfl (Sub.skip rfl (Sub.refl _)))))) hk
 ·intro hb24 hk
  refine o_guard_no rfl 48 rfl rfl rfl rfl rfl ?_
  refine o_guard_no rfl 48 rfl rfl rfl rfl rfl ?_
  refine o_pf rfl rfl rfl ?_
  exact o_sub (sr (Sub.skip rfl (Sub.skip rfl (Sub.skip rfl (Sub.skip rfl (Sub.refl _)))))) hk
 refine o_mv rfl rfl ?_
 refine o_and (p := 55) 3 ((Tab.has (Tab.putR (Tab.putR (List.replicate 3 (⟨false, ByteArray.empty, 0⟩ : DSlot)) (ByteArray.mk #[97]) (5 : Int)) (ByteArray.mk #[98]) (6 : Int)) (ByteArray.mk #[98])) == 6) ?_ ?_ ?_
 ·intro hb25 hk
  simp only [Bool.and_eq_true, beq_iff_eq] at hb25
  refine o_unguard 52 rfl rfl ?_
  refine o_mv rfl rfl ?_
  refine o_unguard 52 rfl rfl ?_
  refine o_p (p_eq rfl rfl) ?_
  refine o_pt rfl rfl rfl ?_
  exact o_sub (sr (Sub.skip rfl (Sub.skip rfl (Sub.skip rfl (Sub.skip rfl (Sub.refl _)))))) hk
 ·intro hb25 hk
  refine o_guard_no rfl 52 rfl rfl rfl rfl rfl ?_
  refine o_guard_no rfl 52 rfl rfl rfl rfl rfl ?_
  refine o_pf rfl rfl rfl ?_
  exact o_sub (sr (Sub.skip rfl (Sub.skip rfl (Sub.skip rfl (Sub.skip rfl (Sub.refl _)))))) hk
 refine o_mv rfl rfl ?_
 refine o_and (p := 59) 3 (decide (1 ≤ (Tab.looked (Tab.putR (Tab.putR (List.replicate 3 (⟨false, ByteArray.empty, 0⟩ : DSlot)) (ByteArray.mk #[97]) (5 : Int)) (ByteArray.mk #[98]) (6 : Int)) (ByteArray.mk #[98])))) ?_ ?_ ?_
 ·intro hb26 hk
  simp only [Bool.and_eq_true, beq_iff_eq] at hb26
  refine o_unguard 56 rfl rfl ?_
  refine o_mv rfl rfl ?_
  refine o_unguard 56 rfl rfl ?_
  refine o_p (p_ge rfl rfl) ?_
  refine o_pt rfl rfl rfl ?_
  exact o_sub (sr (Sub.skip rfl (Sub.skip rfl (Sub.skip rfl (Sub.skip rfl (Sub.refl _)))))) hk
 ·intro hb26 hk
  refine o_guard_no rfl 56 rfl rfl rfl rfl rfl ?_
  refine o_guard_no rfl 56 rfl rfl rfl rfl rfl ?_
  refine o_pf rfl rfl rfl ?_
  exact o_sub (sr (Sub.skip rfl (Sub.skip rfl (Sub.skip rfl (Sub.skip rfl (Sub.refl _)))))) hk
 refine o_mv rfl rfl ?_
 refine o_and (p := 63) 3 ((Tab.keyErr (Tab.putR (Tab.putR (List.replicate 3 (⟨false, ByteArray.empty, 0⟩ : DSlot)) (ByteArray.mk #[97]) (5 : Int)) (ByteArray.mk #[98]) (6 : Int)) (ByteArray.mk #[98])) == 0) ?_ ?_ ?_
 ·intro hb27 hk
  simp only [Bool.and_eq_true, beq_iff_eq, decide_eq_true_eq] at hb27
  refine o_unguard 60 rfl rfl ?_
  refine o_mv rfl rfl ?_
  refine o_unguard 60 rfl rfl ?_
  refine o_p (p_eq rfl rfl) ?_
  refine o_pt rfl rfl rfl ?_
  exact o_sub (sr (Sub.skip rfl (Sub.skip rfl (Sub.skip rfl (Sub.skip rfl (Sub.refl _)))))) hk
 ·intro hb27 hk
  refine o_guard_no rfl 60 rfl rfl rfl rfl rfl ?_
  refine o_guard_no rfl 60 rfl rfl rfl rfl rfl ?_
  refine o_pf rfl rfl rfl ?_
  exact o_sub (sr (Sub.skip rfl (Sub.skip rfl (Sub.skip rfl (Sub.skip rfl (Sub.refl _)))))) hk
 refine o_mv rfl rfl ?_
 refine o_and (p := 67) 3 ((Tab.keyErr (Tab.putR (Tab.putR (List.replicate 3 (⟨false, ByteArray.empty, 0⟩ : DSlot)) (ByteArray.mk #[97]) (5 : Int)) (ByteArray.mk #[98]) (6 : Int)) (ByteArray.mk #[97])) == 0) ?_ ?_ ?_
 ·intro hb28 hk
  simp only [Bool.and_eq_true, beq_iff_eq, decide_eq_true_eq] at hb28
  refine o_unguard 64 rfl rfl ?_
  refine o_mv rfl rfl ?_
  refine o_unguard 64 rfl rfl ?_
  refine o_p (p_eq rfl rfl) ?_
  refine o_pt rfl rfl rfl ?_
  exact o_sub (sr (Sub.skip rfl (Sub.skip rfl (Sub.skip rfl (Sub.skip rfl (Sub.refl _)))))) hk
 ·intro hb28 hk
  refine o_guard_no rfl 64 rfl rfl rfl rfl rfl ?_
  refine o_guard_no rfl 64 rfl rfl rfl rfl rfl ?_
  refine o_pf rfl rfl rfl ?_
  exact o_sub (sr (Sub.skip rfl (Sub.skip rfl (Sub.skip rfl (Sub.skip rfl (Sub.refl _)))))) hk
 refine o_mv rfl rfl ?_
 refine o_and (p := 71) 3 ((Tab.keyErr (Tab.delR (Tab.putR (Tab.putR (List.replicate 3 (⟨false, ByteArray.empty, 0⟩ : DSlot)) (ByteArray.mk #[97]) (5 : Int)) (ByteArray.mk #[98]) (6 : Int)) (ByteArray.mk #[97])) (ByteArray.mk #[97])) == 5) ?_ ?_ ?_
 ·intro hb29 hk
  simp only [Bool.and_eq_true, beq_iff_eq, decide_eq_true_eq] at hb29
  refine o_unguard 68 rfl rfl ?_
  refine o_mv rfl rfl ?_
  refine o_unguard 68 rfl rfl ?_
  refine o_p (p_eq rfl rfl) ?_
  refine o_pt rfl rfl rfl ?_
  exact o_sub (sr (Sub.skip rfl (Sub.skip rfl (Sub.skip rfl (Sub.skip rfl (Sub.refl _)))))) hk
 ·intro hb29 hk
  refine o_guard_no rfl 68 rfl rfl rfl rfl rfl ?_
  refine o_guard_no rfl 68 rfl rfl rfl rfl rfl ?_
  refine o_pf rfl rfl rfl ?_
  exact o_sub (sr (Sub.skip rfl (Sub.skip rfl (Sub.skip rfl (Sub.skip rfl (Sub.refl _)))))) hk
 refine o_mv rfl rfl ?_
 refine o_and (p := 75) 3 ((Tab.sizeErr (Tab.delR (Tab.putR (Tab.putR (List.replicate 3 (⟨false, ByteArray.empty, 0⟩ : DSlot)) (ByteArray.mk #[97]) (5 : Int)) (ByteArray.mk #[98]) (6 : Int)) (ByteArray.mk #[97])) (1 : Int)) == 0) ?_ ?_ ?_
 ·intro hb30 hk
  simp only [Bool.and_eq_true, beq_iff_eq, decide_eq_true_eq] at hb30
  refine o_unguard 72 rfl rfl ?_
  refine o_mv rfl rfl ?_
  refine o_unguard 72 rfl rfl ?_
  refine o_p (p_eq rfl rfl) ?_
  refine o_pt rfl rfl rfl ?_
  exact o_sub (sr (Sub.skip rfl (Sub.skip rfl (Sub.skip rfl (Sub.skip rfl (Sub.refl _)))))) hk
 ·intro hb30 hk
  refine o_guard_no rfl 72 rfl rfl rfl rfl rfl ?_
  refine o_guard_no rfl 72 rfl rfl rfl rfl rfl ?_
  refine o_pf rfl rfl rfl ?_
  exact o_sub (sr (Sub.skip rfl (Sub.skip rfl (Sub.skip rfl (Sub.skip rfl (Sub.refl _)))))) hk
 refine o_mv rfl rfl ?_
 refine o_and (p := 80) 4 (((Tab.sizeR (Tab.delR (Tab.putR (Tab.putR (List.replicate 3 (⟨false, ByteArray.empty, 0⟩ : DSlot)) (ByteArray.mk #[97]) (5 : Int)) (ByteArray.mk #[98]) (6 : Int)) (ByteArray.mk #[97])) (1 : Int)).length : Int) == 1) ?_ ?_ ?_
 ·intro hb31 hk
  simp only [Bool.and_eq_true, beq_iff_eq, decide_eq_true_eq] at hb31
  refine o_unguard 76 rfl rfl ?_
  refine o_mv rfl rfl ?_
  refine o_unguard 76 rfl rfl ?_
  refine o_p (p_len_slice rfl rfl Try.underlying22) ?_
  refine o_unguard 76 rfl rfl ?_
  refine o_p (p_eq rfl rfl) ?_
  refine o_pt rfl rfl rfl ?_
  exact o_sub (sr (Sub.skip rfl (Sub.skip rfl (Sub.skip rfl (Sub.skip rfl (Sub.skip rfl (Sub.refl _))))))) hk
 ·intro hb31 hk
  refine o_guard_no rfl 76 rfl rfl rfl rfl rfl ?_
  refine o_guard_no rfl 76 rfl rfl rfl rfl rfl ?_
  refine o_guard_no rfl 76 rfl rfl rfl rfl rfl ?_
  refine o_pf rfl rfl rfl ?_
  exact o_sub (sr (Sub.skip rfl (Sub.skip rfl (Sub.skip rfl (Sub.skip rfl (Sub.skip rfl (Sub.refl _))))))) hk
 refine o_mv rfl rfl ?_
 refine o_and (p := 87) 6 ((((Tab.sizeR (Tab.delR (Tab.putR (Tab.putR (List.replicate 3 (⟨false, ByteArray.empty, 0⟩ : DSlot)) (ByteArray.mk #[97]) (5 : Int)) (ByteArray.mk #[98]) (6 : Int)) (ByteArray.mk #[97])) (1 : Int))[0]).used == true) && (decide (((Tab.sizeR (Tab.delR (Tab.putR (Tab.putR (List.replicate 3 (⟨false, ByteArray.empty, 0⟩ : DSlot)) (ByteArray.mk #[97]) (5 : Int)) (ByteArray.mk #[98]) (6 : Int)) (ByteArray.mk #[97])) (1 : Int))[0]).key = (ByteArray.mk #[98])) && (((Tab.sizeR (Tab.delR (Tab.putR (Tab.putR (List.replicate 3 (⟨false, ByteArray.empty, 0⟩ : DSlot)) (ByteArray.mk #[97]) (5 : Int)) (ByteArray.mk #[98]) (6 : Int)) (ByteArray.mk #[97])) (1 : Int))[0]).value == 6))) ?_ ?_ ?_
 ·intro hb32 hk
  simp only [Bool.and_eq_true, beq_iff_eq, decide_eq_true_eq] at hb32
  refine o_unguard 81 rfl rfl ?_
  refine o_mv rfl rfl ?_
  refine o_unguard 81 rfl rfl ?_
  refine o_p (p_indexAddr (L := (Tab.sizeR (Tab.delR (Tab.putR (Tab.putR (List.replicate 3 (⟨false, ByteArray.empty, 0⟩ : DSlot)) (ByteArray.mk #[97]) (5 : Int)) (ByteArray.mk #[98]) (6 : Int)) (ByteArray.mk #[97])) (1 : Int))) (T := tSlot) (i := 0) rfl rfl (rd_own (i := 0) rfl) Try.underlying22 sz33 (by first | omega | decide +kernel) (by first | omega | decide +kernel)) ?_
  refine o_unguard 81 rfl rfl ?_
  refine o_p (p_loadEn (i := 0) (T := tSlot) (L := (Tab.sizeR (Tab.delR (Tab.putR (Tab.putR (List.replicate 3 (⟨false, ByteArray.empty, 0⟩ : DSlot)) (ByteArray.mk #[97]) (5 : Int)) (ByteArray.mk #[98]) (6 : Int)) (ByteArray.mk #[97])) (1 : Int))) (vs := [.bool (((Tab.sizeR (Tab.delR (Tab.putR (Tab.putR (List.replicate 3 (⟨false, ByteArray.empty, 0⟩ : DSlot)) (ByteArray.mk #[97]) (5 : Int)) (ByteArray.mk #[98]) (6 : Int)) (ByteArray.mk #[97])) (1 : Int))[0]).used), .string (((Tab.sizeR (Tab.delR (Tab.putR (Tab.putR (List.replicate 3 (⟨false, ByteArray.empty, 0⟩ : DSlot)) (ByteArray.mk #[97]) (5 : Int)) (ByteArray.mk #[98]) (6 : Int)) (ByteArray.mk #[97])) (1 : Int))[0]).key), Vi (((Tab.sizeR (Tab.delR (Tab.putR (Tab.putR (List.replicate 3 (⟨false, ByteArray.empty, 0⟩ : DSlot)) (ByteArray.mk #[97]) (5 : Int)) (ByteArray.mk #[98]) (6 : Int)) (ByteArray.mk #[97])) (1 : Int))[0]).value)]) rfl (rd_own (i := 0) rfl) (by first | assumption | omega | decide +kernel) sh33 rfl) ?_
  refine o_unguard 81 rfl rfl ?_
  refine o_p (p_build (cells := [.bool true, .string (ByteArray.mk #[98]), Vi 6]) fp33 ze33 rfl rfl) ?_
  refine o_unguard 81 rfl rfl ?_
  refine o_p (p_eqStruct (xs := [.bool (((Tab.sizeR (Tab.delR (Tab.putR (Tab.putR (List.replicate 3 (⟨false, ByteArray.empty, 0⟩ : DSlot)) (ByteArray.mk #[97]) (5 : Int)) (ByteArray.mk #[98]) (6 : Int)) (ByteArray.mk #[97])) (1 : Int))[0]).used), .string (((Tab.sizeR (Tab.delR (Tab.putR (Tab.putR (List.replicate 3 (⟨false, ByteArray.empty, 0⟩ : DSlot)) (ByteArray.mk #[97]) (5 : Int)) (ByteArray.mk #[98]) (6 : Int)) (ByteArray.mk #[97])) (1 : Int))[0]).key), Vi (((Tab.sizeR (Tab.delR (Tab.putR (Tab.putR (List.replicate 3 (⟨false, ByteArray.empty, 0⟩ : DSlot)) (ByteArray.mk #[97]) (5 : Int)) (ByteArray.mk #[98]) (6 : Int)) (ByteArray.mk #[97])) (1 : Int))[0]).value)]) (ys := [.bool true, .string (ByteArray.mk #[98]), Vi 6]) (r := ((((Tab.sizeR (Tab.delR (Tab.putR (Tab.putR (List.replicate 3 (⟨false, ByteArray.empty, 0⟩ : DSlot)) (ByteArray.mk #[97]) (5 : Int)) (ByteArray.mk #[98]) (6 : Int)) (ByteArray.mk #[97])) (1 : Int))[0]).used == true) && (decide (((Tab.sizeR (Tab.delR (Tab.putR (Tab.putR (List.replicate 3 (⟨false, ByteArray.empty, 0⟩ : DSlot)) (ByteArray.mk #[97]) (5 : Int)) (ByteArray.mk #[98]) (6 : Int)) (ByteArray.mk #[97])) (1 : Int))[0]).key = (ByteArray.mk #[98])) && (((Tab.sizeR (Tab.delR (Tab.putR (Tab.putR (List.replicate 3 (⟨false, ByteArray.empty, 0⟩ : DSlot)) (ByteArray.mk #[97]) (5 : Int)) (ByteArray.mk #[98]) (6 : Int)) (ByteArray.mk #[97])) (1 : Int))[0]).value == 6)))) rfl rfl eqS33) ?_
  refine o_pt rfl rfl rfl ?_
  exact o_sub (sr (Sub.skip rfl (Sub.skip rfl (Sub.skip rfl (Sub.skip rfl (Sub.skip rfl (Sub.skip rfl (Sub.skip rfl (Sub.refl _))))))))) hk
 ·intro hb32 hk
  refine o_guard_no rfl 81 rfl rfl rfl rfl rfl ?_
  refine o_guard_no rfl 81 rfl rfl rfl rfl rfl ?_
  refine o_guard_no rfl 81 rfl rfl rfl rfl rfl ?_
  refine o_guard_no rfl 81 rfl rfl rfl rfl rfl ?_
  refine o_guard_no rfl 81 rfl rfl rfl rfl rfl ?_
  refine o_pf rfl rfl rfl ?_
  exact o_sub (sr (Sub.skip rfl (Sub.skip rfl (Sub.skip rfl (Sub.skip rfl (Sub.skip rfl (Sub.skip rfl (Sub.skip rfl (Sub.refl _))))))))) hk
 refine o_mv rfl rfl ?_
 refine o_and (p := 91) 3 ((Tab.check []) == 1) ?_ ?_ ?_
 ·intro hb33 hk
  simp only [Bool.and_eq_true, beq_iff_eq, decide_eq_true_eq] at hb33
  refine o_unguard 88 rfl rfl ?_
  refine o_call0 (v := Vi (Tab.check [])) rfl (tcheck_ok [] none 0) hf25 (fun w hw => rd_nil w hw) rfl ?_
  refine o_unguard 88 rfl rfl ?_
  refine o_p (p_eq rfl rfl) ?_
  refine o_pt rfl rfl rfl ?_
  exact o_sub (sr (Sub.skip rfl (Sub.skip rfl (Sub.skip rfl (Sub.skip rfl (Sub.refl _)))))) hk
 ·intro hb33 hk
  refine o_guard_no rfl 88 rfl rfl rfl rfl rfl ?_
  refine o_guard_no rfl 88 rfl rfl rfl rfl rfl ?_
  refine o_pf rfl rfl rfl ?_
  exact o_sub (sr (Sub.skip rfl (Sub.skip rfl (Sub.skip rfl (Sub.skip rfl (Sub.refl _)))))) hk
 refine o_mv rfl rfl ?_
 refine o_and (p := 97) 5 ((Tab.check ([(⟨false, (ByteArray.mk #[97]), 0⟩ : DSlot)])) == 1) ?_ ?_ ?_
 ·intro hb34 hk
  simp only [Bool.and_eq_true, beq_iff_eq, decide_eq_true_eq] at hb34
  refine o_unguard 92 rfl rfl ?_
  refine o_p (p_build (cells := [.bool false, .string (ByteArray.mk #[97]), Vi 0]) fp33 ze33 rfl rfl) ?_
  refine o_unguard 92 rfl rfl ?_
  refine o_buildSlice (m := 1) (T := tSlot) (L := [(⟨false, (ByteArray.mk #[97]), 0⟩ : DSlot)]) (vs := [.agg #[.bool false, .string (ByteArray.mk #[97]), Vi 0]]) rfl rfl rfl rfl Try.underlying22 sz33 (by decide) ze33 rfl (by decide) rfl (fun S35 a36 => ?_)
  refine o_unguard 92 rfl rfl ?_
  refine o_call0 (v := Vi (Tab.check ([(⟨false, (ByteArray.mk #[97]), 0⟩ : DSlot)]))) rfl (tcheck_ok ([(⟨false, (ByteArray.mk #[97]), 0⟩ : DSlot)]) a36 ([(⟨false, (ByteArray.mk #[97]), 0⟩ : DSlot)].length)) hf25 (fun w hw => (rd_own (i := 0) rfl) w hw) rfl ?_
  refine o_unguard 92 rfl rfl ?_
  refine o_p (p_eq rfl rfl) ?_
  refine o_pt rfl rfl rfl ?_
  exact o_sub (sr (Sub.skip rfl (Sub.skip rfl (Sub.skip rfl (Sub.skip rfl (Sub.skip rfl (Sub.skip rfl (Sub.refl _)))))))) (o_drop (lz (lj (lj (lj (lj (lj (lj (ln)))))))) hk)
 ·intro hb34 hk
  refine o_guard_no rfl 92 rfl rfl rfl rfl rfl ?_
  refine o_guard_no rfl 92 rfl rfl rfl rfl rfl ?_
  refine o_guard_no rfl 92 rfl rfl rfl rfl rfl ?_
  refine o_guard_no rfl 92 rfl rfl rfl rfl rfl ?_
  refine o_pf rfl rfl rfl ?_
  exact o_sub (sr (Sub.skip rfl (Sub.skip rfl (Sub.skip rfl (Sub.skip rfl (Sub.skip rfl (Sub.skip rfl (Sub.refl _)))))))) hk
 refine o_as rfl rfl ?_
 refine o_nil (q_then (c_ret ?_))
 have hr0 : ((((((((((((((Tab.putErr (List.replicate 3 (⟨false, ByteArray.empty, 0⟩ : DSlot)) (ByteArray.mk #[97]) (5 : Int)) == 0) && ((Tab.putErr (Tab.putR (List.replicate 3 (⟨false, ByteArray.empty, 0⟩ : DSlot)) (ByteArray.mk #[97]) (5 : Int)) (ByteArray.mk #[98]) (6 : Int)) == 0)) && ((Tab.has (Tab.putR (Tab.putR (List.replicate 3 (⟨false, ByteArray.empty, 0⟩ : DSlot)) (ByteArray.mk #[97]) (5 : Int)) (ByteArray.mk #[98]) (6 : Int)) (ByteArray.mk #[98])) == 6)) && decide (1 ≤ (Tab.looked (Tab.putR (Tab.putR (List.replicate 3 (⟨false, ByteArray.empty, 0⟩ : DSlot)) (ByteArray.mk #[97]) (5 : Int)) (ByteArray.mk #[98]) (6 : Int)) (ByteArray.mk #[98])))) && ((Tab.keyErr (Tab.putR (Tab.putR (List.replicate 3 (⟨false, ByteArray.empty, 0⟩ : DSlot)) (ByteArray.mk #[97]) (5 : Int)) (ByteArray.mk #[98]) (6 : Int)) (ByteArray.mk #[98])) == 0)) && ((Tab.keyErr (Tab.putR (Tab.putR (List.replicate 3 (⟨false, ByteArray.empty, 0⟩ : DSlot)) (ByteArray.mk #[97]) (5 : Int)) (ByteArray.mk #[98]) (6 : Int)) (ByteArray.mk #[97])) == 0)) && ((Tab.keyErr (Tab.delR (Tab.putR (Tab.putR (List.replicate 3 (⟨false, ByteArray.empty, 0⟩ : DSlot)) (ByteArray.mk #[97]) (5 : Int)) (ByteArray.mk #[98]) (6 : Int)) (ByteArray.mk #[97])) (ByteArray.mk #[97])) == 5)) && ((Tab.sizeErr (Tab.delR (Tab.putR (Tab.putR (List.replicate 3 (⟨false, ByteArray.empty, 0⟩ : DSlot)) (ByteArray.mk #[97]) (5 : Int)) (ByteArray.mk #[98]) (6 : Int)) (ByteArray.mk #[97])) (1 : Int)) == 0)) && (((Tab.sizeR (Tab.delR (Tab.putR (Tab.putR (List.replicate 3 (⟨false, ByteArray.empty, 0⟩ : DSlot)) (ByteArray.mk #[97]) (5 : Int)) (ByteArray.mk #[98]) (6 : Int)) (ByteArray.mk #[97])) (1 : Int)).length : Int) == 1)) && ((((Tab.sizeR (Tab.delR (Tab.putR (Tab.putR (List.replicate 3 (⟨false, ByteArray.empty, 0⟩ : DSlot)) (ByteArray.mk #[97]) (5 : Int)) (ByteArray.mk #[98]) (6 : Int)) (ByteArray.mk #[97])) (1 : Int))[0]).used == true) && (decide (((Tab.sizeR (Tab.delR (Tab.putR (Tab.putR (List.replicate 3 (⟨false, ByteArray.empty, 0⟩ : DSlot)) (ByteArray.mk #[97]) (5 : Int)) (ByteArray.mk #[98]) (6 : Int)) (ByteArray.mk #[97])) (1 : Int))[0]).key = (ByteArray.mk #[98])) && (((Tab.sizeR (Tab.delR (Tab.putR (Tab.putR (List.replicate 3 (⟨false, ByteArray.empty, 0⟩ : DSlot)) (ByteArray.mk #[97]) (5 : Int)) (ByteArray.mk #[98]) (6 : Int)) (ByteArray.mk #[97])) (1 : Int))[0]).value == 6)))) && ((Tab.check []) == 1)) && ((Tab.check ([(⟨false, (ByteArray.mk #[97]), 0⟩ : DSlot)])) == 1)) : Bool) = true := by
  first | rfl | decide +kernel
 refine q_end0 (v := .bool (((((((((((((Tab.putErr (List.replicate 3 (⟨false, ByteArray.empty, 0⟩ : DSlot)) (ByteArray.mk #[97]) (5 : Int)) == 0) && ((Tab.putErr (Tab.putR (List.replicate 3 (⟨false, ByteArray.empty, 0⟩ : DSlot)) (ByteArray.mk #[97]) (5 : Int)) (ByteArray.mk #[98]) (6 : Int)) == 0)) && ((Tab.has (Tab.putR (Tab.putR (List.replicate 3 (⟨false, ByteArray.empty, 0⟩ : DSlot)) (ByteArray.mk #[97]) (5 : Int)) (ByteArray.mk #[98]) (6 : Int)) (ByteArray.mk #[98])) == 6)) && decide (1 ≤ (Tab.looked (Tab.putR (Tab.putR (List.replicate 3 (⟨false, ByteArray.empty, 0⟩ : DSlot)) (ByteArray.mk #[97]) (5 : Int)) (ByteArray.mk #[98]) (6 : Int)) (ByteArray.mk #[98])))) && ((Tab.keyErr (Tab.putR (Tab.putR (List.replicate 3 (⟨false, ByteArray.empty, 0⟩ : DSlot)) (ByteArray.mk #[97]) (5 : Int)) (ByteArray.mk #[98]) (6 : Int)) (ByteArray.mk #[98])) == 0)) && ((Tab.keyErr (Tab.putR (Tab.putR (List.replicate 3 (⟨false, ByteArray.empty, 0⟩ : DSlot)) (ByteArray.mk #[97]) (5 : Int)) (ByteArray.mk #[98]) (6 : Int)) (ByteArray.mk #[97])) == 0)) && ((Tab.keyErr (Tab.delR (Tab.putR (Tab.putR (List.replicate 3 (⟨false, ByteArray.empty, 0⟩ : DSlot)) (ByteArray.mk #[97]) (5 : Int)) (ByteArray.mk #[98]) (6 : Int)) (ByteArray.mk #[97])) (ByteArray.mk #[97])) == 5)) && ((Tab.sizeErr (Tab.delR (Tab.putR (Tab.putR (List.replicate 3 (⟨false, ByteArray.empty, 0⟩ : DSlot)) (ByteArray.mk #[97]) (5 : Int)) (ByteArray.mk #[98]) (6 : Int)) (ByteArray.mk #[97])) (1 : Int)) == 0)) && (((Tab.sizeR (Tab.delR (Tab.putR (Tab.putR (List.replicate 3 (⟨false, ByteArray.empty, 0⟩ : DSlot)) (ByteArray.mk #[97]) (5 : Int)) (ByteArray.mk #[98]) (6 : Int)) (ByteArray.mk #[97])) (1 : Int)).length : Int) == 1)) && ((((Tab.sizeR (Tab.delR (Tab.putR (Tab.putR (List.replicate 3 (⟨false, ByteArray.empty, 0⟩ : DSlot)) (ByteArray.mk #[97]) (5 : Int)) (ByteArray.mk #[98]) (6 : Int)) (ByteArray.mk #[97])) (1 : Int))[0]).used == true) && (decide (((Tab.sizeR (Tab.delR (Tab.putR (Tab.putR (List.replicate 3 (⟨false, ByteArray.empty, 0⟩ : DSlot)) (ByteArray.mk #[97]) (5 : Int)) (ByteArray.mk #[98]) (6 : Int)) (ByteArray.mk #[97])) (1 : Int))[0]).key = (ByteArray.mk #[98])) && (((Tab.sizeR (Tab.delR (Tab.putR (Tab.putR (List.replicate 3 (⟨false, ByteArray.empty, 0⟩ : DSlot)) (ByteArray.mk #[97]) (5 : Int)) (ByteArray.mk #[98]) (6 : Int)) (ByteArray.mk #[97])) (1 : Int))[0]).value == 6)))) && ((Tab.check []) == 1)) && ((Tab.check ([(⟨false, (ByteArray.mk #[97]), 0⟩ : DSlot)])) == 1))) (rt1 rfl (r_tmp rfl)) (i := 5) rfl ?_
 exact (by have hcc := congrArg (fun (y0 : Bool) => (.bool y0 : Value)) hr0; exact hcc)
end Go.Proofs.Ythecfjipaepcgaa
