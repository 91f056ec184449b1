/- The walks, printed by a program from the translation and a specification. -/
import Derived.Test.YtgjdmnljnimamaaRgF
import Derived.Test.YtgjdmnljnimamaaRgLaw3
import Derived.Test.YtgjdmnljnimamaaRgW3
namespace Go.Proofs.Ytgjdmnljnimamaa
open Go.Sx Go.RowKit
set_option maxHeartbeats 8000000 in
set_option maxRecDepth 100000 in
theorem rshares_ok (l : List DPoint) (al : Option Addr) (cl : Nat) (n : Int) : FnM Try.prog 18 [.slice al l.length cl, .int .i64 n] (fun w => Rd tPoint w al cl l) (Option Addr × Nat) (fun p => .tuple #[.slice p.1 (Rg.shares l n).length p.2, .int .i64 (Rg.shErr l n)]) (fun p S w => SlO tInt S w p.1 p.2 (Rg.shares l n)) := by
  refine fnM (nt := 60) (F0 := [(0, .slice al l.length cl), (1, .int .i64 n)]) Try.func18 rfl Try.ntmps18 rfl rfl (fun w0 hpre => ?_)
  have hl := hpre
  have hlhl := hl.2.1
  refine c_seq ?_
  refine c_region ?_
  refine o_pure (p_assign (v := .slice none 0 0) rfl) rfl rfl rfl ?_
  refine o_pure (p_assign (v := .int .i64 0) rfl) rfl rfl rfl ?_
  refine o_nil ?_
  refine q_then ?_
  refine c_seq ?_
  refine c_region ?_
  refine o_pure (p_move (v := .slice al l.length cl) rfl) rfl rfl rfl ?_
  refine o_call0 (v := .int .i64 (Rg.check l)) rfl (rcheck_ok l al cl) hf24 (fun w hw => (rd_base (i := 0) rfl hl) w hw) rfl ?_
  refine o_pure (p_assign (v := .int .i64 (Rg.check l)) rfl) rfl rfl rfl ?_
  refine o_nil ?_
  refine q_then ?_
  refine c_seq ?_
  refine c_block ?_
  refine c_seq ?_
  refine c_region ?_
  refine o_pure (p_move (v := .int .i64 (Rg.check l)) rfl) rfl rfl rfl ?_
  refine o_pure (p_ne (p := (Rg.check l)) (q := 0) rfl rfl) rfl rfl rfl ?_
  refine o_pure (p_assign (v := .bool ((Rg.check l) != 0)) rfl) rfl rfl rfl ?_
  refine o_nil ?_
  refine q_then ?_
  refine c_cond (b := ((Rg.check l) != 0)) rfl (fun hc1 => ?_) (fun hc1 => ?_)
  · simp only [bne_iff_ne, ne_eq] at hc1
    refine c_seq ?_
    refine c_region ?_
    refine o_pure (p_move (v := .int .i64 (Rg.check l)) rfl) rfl rfl rfl ?_
    refine o_pure (p_assign (v := .slice none 0 0) rfl) rfl rfl rfl ?_
    refine o_pure (p_assign (v := .int .i64 (Rg.check l)) rfl) rfl rfl rfl ?_
    refine o_nil ?_
    refine q_then ?_
    refine c_ret ?_
    refine q_block_ret (q_then_ret ?_)
    obtain ⟨hv1, hv2⟩ : _ ∧ _ := by first | exact Rg.sh1 (l := l) (n := n) (by assumption) | exact Rg.sh2 (n := n) hck (by omega) | exact Rg.sh3 (n := n) hck hnn (by omega) | exact Rg.sh4 (n := n) hck hnn hpos
    have hr0 : ([] : List Int) = (Rg.shares l n) := by
      first | exact hv1.symm | exact hv2.symm | (rw [hv1, hdn])
    have hr1 : ((Rg.check l) : Int) = (Rg.shErr l n) := by
      first | exact hv1.symm | exact hv2.symm | (rw [hv1, hdn])
    refine q_endM (p := (none, 0)) (fun _ => False) (rt2 rfl (r_tmp rfl) (r_tmp rfl)) (i := 0) rfl ?_ ?_ ?_
    · exact (by have hcc := congr (congrArg (fun (y0 : List Int) (y1 : Int) => (.tuple #[.slice none y0.length 0, .int .i64 y1] : Value)) hr0) hr1; exact hcc)
    · intro w hw b hb; exact hb.elim
    · intro w hw; exact Eq.mp (congrArg (fun y => SlO tInt _ w none 0 y) hr0) (SlO.nil tInt w)
  · simp only [bne_eq_false_iff_eq] at hc1
    have hck := hc1
    have hok := Rg.check_ok.1 hck
    have hlen := hok.len
    refine c_seq ?_
    refine c_region ?_
    refine o_pure (p_move (v := .int .i64 n) rfl) rfl rfl rfl ?_
    refine o_pure (p_lt (p := n) (q := 1) rfl rfl) rfl rfl rfl ?_
    refine o_pure (p_move (v := .bool (decide (n < 1))) rfl) rfl rfl rfl ?_
    refine o_or (p := 23) 3 (decide (20 < n)) ?_ ?_ ?_
    · intro hb2 hk
      simp only [decide_eq_false_iff_not, Int.not_lt] at hb2
      refine o_unguard 20 rfl rfl ?_
      refine o_pure (p_move (v := .int .i64 n) rfl) rfl rfl rfl ?_
      refine o_unguard 20 rfl rfl ?_
      refine o_pure (p_gt (p := n) (q := 20) rfl rfl) rfl rfl rfl ?_
      refine o_pure (p_pick_false (v := .bool (decide (20 < n))) rfl rfl) rfl rfl rfl ?_
      exact o_sub (Sub.cons rfl (Sub.skip rfl (Sub.skip rfl (Sub.skip rfl (Sub.skip rfl (Sub.refl _)))))) hk
    · intro hb2 hk
      refine o_guard_no rfl 20 rfl rfl rfl rfl rfl ?_
      refine o_guard_no rfl 20 rfl rfl rfl rfl rfl ?_
      refine o_pure (p_pick_true (u := .bool true) rfl rfl) rfl rfl rfl ?_
      exact o_sub (Sub.cons rfl (Sub.skip rfl (Sub.skip rfl (Sub.skip rfl (Sub.skip rfl (Sub.refl _)))))) hk
    refine o_pure (p_assign (v := .bool (decide (n < 1) || decide (20 < n))) rfl) rfl rfl rfl ?_
    refine o_nil ?_
    refine q_then ?_
    refine c_cond (b := (decide (n < 1) || decide (20 < n))) rfl (fun hc3 => ?_) (fun hc3 => ?_)
    · simp only [Bool.or_eq_true, decide_eq_true_eq] at hc3
      refine c_seq ?_
      refine c_region ?_
      refine o_pure (p_assign (v := .slice none 0 0) rfl) rfl rfl rfl ?_
      refine o_pure (p_assign (v := .int .i64 3) rfl) rfl rfl rfl ?_
      refine o_nil ?_
      refine q_then ?_
      refine c_ret ?_
      refine q_block_ret (q_then_ret ?_)
      obtain ⟨hv1, hv2⟩ : _ ∧ _ := by first | exact Rg.sh1 (l := l) (n := n) (by assumption) | exact Rg.sh2 (n := n) hck (by omega) | exact Rg.sh3 (n := n) hck hnn (by omega) | exact Rg.sh4 (n := n) hck hnn hpos
      have hr0 : ([] : List Int) = (Rg.shares l n) := by
        first | exact hv1.symm | exact hv2.symm | (rw [hv1, hdn])
      have hr1 : (3 : Int) = (Rg.shErr l n) := by
        first | exact hv1.symm | exact hv2.symm | (rw [hv1, hdn])
      refine q_endM (p := (none, 0)) (fun _ => False) (rt2 rfl (r_tmp rfl) (r_tmp rfl)) (i := 0) rfl ?_ ?_ ?_
      · exact (by have hcc := congr (congrArg (fun (y0 : List Int) (y1 : Int) => (.tuple #[.slice none y0.length 0, .int .i64 y1] : Value)) hr0) hr1; exact hcc)
      · intro w hw b hb; exact hb.elim
      · intro w hw; exact Eq.mp (congrArg (fun y => SlO tInt _ w none 0 y) hr0) (SlO.nil tInt w)
    · simp only [Bool.or_eq_false_iff, decide_eq_false_iff_not, Int.not_lt] at hc3
      have hnn := hc3
      refine c_seq ?_
      refine c_region ?_
      refine o_pure (p_move (v := .slice al l.length cl) rfl) rfl rfl rfl ?_
      refine o_pure (p_len_slice (len := l.length) rfl rfl Try.underlying22) rfl rfl rfl ?_
      refine o_pure (p_eq (p := (l.length : Int)) (q := 0) rfl rfl) rfl rfl rfl ?_
      refine o_pure (p_assign (v := .bool ((l.length : Int) == 0)) rfl) rfl rfl rfl ?_
      refine o_nil ?_
      refine q_then ?_
      refine c_cond (b := ((l.length : Int) == 0)) rfl (fun hc4 => ?_) (fun hc4 => ?_)
      · simp only [beq_iff_eq] at hc4
        refine c_seq ?_
        refine c_region ?_
        refine o_pure (p_assign (v := .slice none 0 0) rfl) rfl rfl rfl ?_
        refine o_pure (p_assign (v := .int .i64 5) rfl) rfl rfl rfl ?_
        refine o_nil ?_
        refine q_then ?_
        refine c_ret ?_
        refine q_block_ret (q_then_ret ?_)
        obtain ⟨hv1, hv2⟩ : _ ∧ _ := by first | exact Rg.sh1 (l := l) (n := n) (by assumption) | exact Rg.sh2 (n := n) hck (by omega) | exact Rg.sh3 (n := n) hck hnn (by omega) | exact Rg.sh4 (n := n) hck hnn hpos
        have hr0 : ([] : List Int) = (Rg.shares l n) := by
          first | exact hv1.symm | exact hv2.symm | (rw [hv1, hdn])
        have hr1 : (5 : Int) = (Rg.shErr l n) := by
          first | exact hv1.symm | exact hv2.symm | (rw [hv1, hdn])
        refine q_endM (p := (none, 0)) (fun _ => False) (rt2 rfl (r_tmp rfl) (r_tmp rfl)) (i := 0) rfl ?_ ?_ ?_
        · exact (by have hcc := congr (congrArg (fun (y0 : List Int) (y1 : Int) => (.tuple #[.slice none y0.length 0, .int .i64 y1] : Value)) hr0) hr1; exact hcc)
        · intro w hw b hb; exact hb.elim
        · intro w hw; exact Eq.mp (congrArg (fun y => SlO tInt _ w none 0 y) hr0) (SlO.nil tInt w)
      · simp only [beq_eq_false_iff_ne, ne_eq] at hc4
        have hpos : 0 < l.length := by omega
        have hlb := (Rg.okPoint_iff.1 (hok.fine.point _ (List.getElem_mem (show l.length - 1 < l.length by omega)))).2
        have hlx : ((l.length : Int) - 1).toNat = l.length - 1 := by omega
        refine c_skip ?_
        refine q_block_normal (q_then ?_)
        refine c_seq ?_
        refine c_region ?_
        refine o_makeSlice (T := tInt) (m := 20) (z := 0) rfl rfl Try.underlying23 el3 ze3 rfl (by decide) (by omega) (by omega) rfl (fun S6 a5 => ?_)
        refine o_pure (p_assign (v := .slice a5 (List.replicate 20 0).length 20) rfl) rfl rfl rfl ?_
        refine o_nil ?_
        refine q_then ?_
        refine c_seq ?_
        refine c_region ?_
        refine o_pure (p_move (v := .slice al l.length cl) rfl) rfl rfl rfl ?_
        refine o_pure (p_move (v := .slice al l.length cl) rfl) rfl rfl rfl ?_
        refine o_pure (p_len_slice (len := l.length) rfl rfl Try.underlying22) rfl rfl rfl ?_
        refine o_pure (p_subb (p := (l.length : Int)) (q := 1) rfl rfl (by omega)) rfl rfl rfl ?_
        refine o_pure (p_indexAddr (L := l) (T := tPoint) (i := ((l.length : Int) - 1)) rfl rfl (rd_base (i := 1) rfl hl) Try.underlying22 sz35 (by omega) (by omega)) rfl rfl rfl ?_
        refine o_pure (p_fieldAddrE rfl fo35_0) rfl rfl rfl ?_
        refine o_pure (p_loadF (i := ((l.length : Int) - 1).toNat) (j := 0) (T := tPoint) (L := l) (v := .int .i64 ((l[((l.length : Int) - 1).toNat]).at_)) rfl (rd_base (i := 1) rfl hl) (by first | assumption | omega) sh3 rfl) rfl rfl rfl ?_
        refine o_pure (p_subb (p := (l[((l.length : Int) - 1).toNat]).at_) (q := 65536) rfl rfl (by simp only [hlx]; omega)) rfl rfl rfl ?_
        refine o_pure (p_assign (v := .int .i64 ((l[((l.length : Int) - 1).toNat]).at_ - 65536)) rfl) rfl rfl rfl ?_
        refine o_nil ?_
        refine q_then ?_
        refine c_seq ?_
        refine c_seq ?_
        refine c_region ?_
        refine o_pure (p_move (v := .slice al l.length cl) rfl) rfl rfl rfl ?_
        refine o_pure (p_len_slice (len := l.length) rfl rfl Try.underlying22) rfl rfl rfl ?_
        refine o_pure (p_move (v := .int .i64 0) rfl) rfl rfl rfl ?_
        refine o_nil ?_
        refine q_then ?_
        refine c_block ?_
        refine c_loop (St := Int × Nat × List Int)
          (fun ⟨last, k, ol⟩ => [(1, .int .i64 n), (7, .slice a5 ol.length 20), (8, .int .i64 last), (37, .slice al l.length cl), (38, .int .i64 (l.length : Int)), (39, .int .i64 (k : Int))])
          (fun ⟨last, k, ol⟩ => [own tInt S6 a5 20 ol, base w0])
          (fun ⟨last, k, ol⟩ => Rg.SInv l ol last k)
          (fun ⟨last, k, ol⟩ => l.length - k)
          (((l[((l.length : Int) - 1).toNat]).at_ - 65536), 0, (List.replicate 20 0)) ?_ (Sub.cons rfl (Sub.cons rfl (Sub.cons rfl (Sub.cons rfl (Sub.cons rfl (Sub.cons rfl (Sub.nil _))))))) (fun _ hw => hw) ?_
        · exact Rg.SInv.start hpos (by simp only [hlx]; rw [← getd_at (by omega) default])
        rintro ⟨last, k, ol⟩ hI K hK8
        have hol := hI.len
        have hkl := hI.le
        show SC _ _ Try.prog 60 w0 _ _ [(1, .int .i64 n), (7, .slice a5 ol.length 20), (8, .int .i64 last), (37, .slice al l.length cl), (38, .int .i64 (l.length : Int)), (39, .int .i64 (k : Int))] [own tInt S6 a5 20 ol, base w0]
        refine c_seq ?_
        refine c_region ?_
        refine o_pure (p_lt (p := (k : Int)) (q := (l.length : Int)) rfl rfl) rfl rfl rfl ?_
        refine o_nil ?_
        refine q_then ?_
        refine c_seq ?_
        refine c_cond (b := decide ((k : Int) < (l.length : Int))) rfl (fun hc9 => ?_) (fun hc9 => ?_)
        · simp only [decide_eq_true_eq] at hc9
          have hpt := Rg.okPoint_iff.1 (hok.fine.point _ (List.getElem_mem (show k < l.length by omega)))
          have hbb := Rg.bef_bd hok.fine (show k < l.length by omega)
          have hlast := hI.last
          have hbo := hI.bd hok.fine (j := l[k].shard.toNat) (by omega)
          refine c_skip ?_
          refine q_then ?_
          refine c_seq ?_
          refine c_block ?_
          refine c_seq ?_
          refine c_region ?_
          refine o_pure (p_indexAddr (L := l) (T := tPoint) (i := (k : Int)) rfl rfl (rd_base (i := 1) rfl hl) Try.underlying22 sz35 (by omega) (by omega)) rfl rfl rfl ?_
          refine o_pure (p_loadEn (i := k) (T := tPoint) (L := l) (vs := [.int .i64 ((l[k]).at_), .int .i64 ((l[k]).shard)]) rfl (rd_base (i := 1) rfl hl) (by first | assumption | omega) sh35 rfl) rfl rfl rfl ?_
          refine o_alloc ze35 rfl (fun B10 => ?_)
          refine o_storeN (i := 0) (vs := [.int .i64 ((l[k]).at_), .int .i64 ((l[k]).shard)]) (cs' := [.int .i64 ((l[k]).at_), .int .i64 ((l[k]).shard)]) rfl rfl rfl sz35 rfl rfl rfl rfl ?_
          refine o_nil ?_
          refine q_then ?_
          refine c_seq ?_
          refine c_held hmix [box B10 [.int .i64 ((l[k]).at_), .int .i64 ((l[k]).shard)] 35, ownE tInt S6 a5 20 (ol.length), base w0] rfl rfl ?_
          refine h_take (i := 0) (ls := #[true, false, false, false, false, false, false, false, false, false, false, false]) rfl (by kernel_rfl) (by kernel_rfl) (by kernel_rfl) (fun _ _ _ h => h) (p_move (v := .slice a5 ol.length 20) rfl) rfl rfl rfl (fun _ hw => HeapIs.drop (HeapIs.toE (i := 1) (m := ol.length) (T := tInt) rfl (by simp only [List.length_set]) hw) (List.Sublist.refl _)) rfl ?_
          refine h_take (i := 1) (ls := #[true, true, false, false, false, false, false, false, false, false, false, false]) rfl (by kernel_rfl) (by kernel_rfl) (by kernel_rfl) (fun _ _ _ h => h) (p_fieldAddr (B := B10) (j := 0) (j' := 1) rfl fo35_1 rfl) rfl rfl rfl (fun _ hw => HeapIs.drop (HeapIs.toE (i := 1) (m := ol.length) (T := tInt) rfl (by simp only [List.length_set]) hw) (List.Sublist.refl _)) rfl ?_
          refine h_take (i := 2) (ls := #[true, true, true, false, false, false, false, false, false, false, false, false]) rfl (by kernel_rfl) (by kernel_rfl) (by kernel_rfl) (fun _ _ _ h => h) (p_load (i := 0) (v := .int .i64 ((l[k]).shard)) rfl rfl sh3 rfl) rfl rfl rfl (fun _ hw => HeapIs.drop (HeapIs.toE (i := 1) (m := ol.length) (T := tInt) rfl (by simp only [List.length_set]) hw) (List.Sublist.refl _)) rfl ?_
          refine h_take (i := 3) (ls := #[true, true, true, true, false, false, false, false, false, false, false, false]) rfl (by kernel_rfl) (by kernel_rfl) (by kernel_rfl) (fun _ _ _ h => h) (p_indexAddrE (T := tInt) (i := (l[k]).shard) (j := 1) rfl rfl rfl Try.underlying23 sz3 (by omega) (by omega)) rfl rfl rfl (fun _ hw => HeapIs.drop (HeapIs.toE (i := 1) (m := ol.length) (T := tInt) rfl (by simp only [List.length_set]) hw) (List.Sublist.refl _)) rfl ?_
          refine h_take (i := 5) (ls := #[true, true, true, true, false, true, false, false, false, false, false, false]) rfl (by kernel_rfl) (by kernel_rfl) (by kernel_rfl) (fun _ _ _ h => h) (p_fieldAddr (B := B10) (j := 0) (j' := 0) rfl fo35_0 rfl) rfl rfl rfl (fun _ hw => HeapIs.drop (HeapIs.toE (i := 1) (m := ol.length) (T := tInt) rfl (by simp only [List.length_set]) hw) (List.Sublist.refl _)) rfl ?_
          refine h_take (i := 6) (ls := #[true, true, true, true, false, true, true, false, false, false, false, false]) rfl (by kernel_rfl) (by kernel_rfl) (by kernel_rfl) (fun _ _ _ h => h) (p_load (i := 0) (v := .int .i64 ((l[k]).at_)) rfl rfl sh3 rfl) rfl rfl rfl (fun _ hw => HeapIs.drop (HeapIs.toE (i := 1) (m := ol.length) (T := tInt) rfl (by simp only [List.length_set]) hw) (List.Sublist.refl _)) rfl ?_
          refine h_take (i := 7) (ls := #[true, true, true, true, false, true, true, true, false, false, false, false]) rfl (by kernel_rfl) (by kernel_rfl) (by kernel_rfl) (fun _ _ _ h => h) (p_move (v := .int .i64 last) rfl) rfl rfl rfl (fun _ hw => HeapIs.drop (HeapIs.toE (i := 1) (m := ol.length) (T := tInt) rfl (by simp only [List.length_set]) hw) (List.Sublist.refl _)) rfl ?_
          refine h_take (i := 8) (ls := #[true, true, true, true, false, true, true, true, true, false, false, false]) rfl (by kernel_rfl) (by kernel_rfl) (by kernel_rfl) (fun _ _ _ h => h) (p_subb (p := (l[k]).at_) (q := last) rfl rfl (by omega)) rfl rfl rfl (fun _ hw => HeapIs.drop (HeapIs.toE (i := 1) (m := ol.length) (T := tInt) rfl (by simp only [List.length_set]) hw) (List.Sublist.refl _)) rfl ?_
          refine h_one (i := 4) (ls := #[true, true, true, true, true, true, true, true, true, false, false, false]) (by kernel_rfl) rfl rfl ?_
          refine o_pure (p_loadE1 (i := ((l[k]).shard).toNat) (T := tInt) (L := ol) (v := .int .i64 (ol[((l[k]).shard).toNat])) rfl (rd_own (i := 1) rfl) (by first | assumption | omega) sh3 rfl) rfl rfl rfl ?_
          refine o_nil ?_
          refine h_next (fun _ hw => HeapIs.drop (HeapIs.toE (i := 1) (m := ol.length) (T := tInt) rfl (by simp only [List.length_set]) hw) (List.Sublist.refl _)) ?_
          refine h_take (i := 9) (ls := #[true, true, true, true, true, true, true, true, true, true, false, false]) rfl (by kernel_rfl) (by kernel_rfl) (by kernel_rfl) (fun _ _ _ h => h) (p_addb (p := ol[((l[k]).shard).toNat]) (q := ((l[k]).at_ - last)) rfl rfl (by omega)) rfl rfl rfl (fun _ hw => HeapIs.drop (HeapIs.toE (i := 1) (m := ol.length) (T := tInt) rfl (by simp only [List.length_set]) hw) (List.Sublist.refl _)) rfl ?_
          refine h_take (i := 10) (ls := #[true, true, true, true, true, true, true, true, true, true, true, false]) rfl (by kernel_rfl) (by kernel_rfl) (by kernel_rfl) (fun _ _ _ h => h) (p_indexAddrE (T := tInt) (i := (l[k]).shard) (j := 1) rfl rfl rfl Try.underlying23 sz3 (by omega) (by omega)) rfl rfl rfl (fun _ hw => HeapIs.drop (HeapIs.toE (i := 1) (m := ol.length) (T := tInt) rfl (by simp only [List.length_set]) hw) (List.Sublist.refl _)) rfl ?_
          refine h_one (i := 11) (ls := #[true, true, true, true, true, true, true, true, true, true, true, true]) (by kernel_rfl) rfl rfl ?_
          refine o_storeW (i := 1) (T := tInt) (idx := ((l[k]).shard).toNat) (v := .int .i64 (ol[((l[k]).shard).toNat] + ((l[k]).at_ - last))) (vs := [.int .i64 (ol[((l[k]).shard).toNat] + ((l[k]).at_ - last))]) (z := (ol[((l[k]).shard).toNat] + ((l[k]).at_ - last))) rfl rfl rfl rfl (by first | assumption | omega | (simp only [List.length_set]; omega)) sz3 rfl rfl rfl rfl (Sub.refl _) ?_
          refine o_nil ?_
          refine h_next (fun _ hw => HeapIs.drop (HeapIs.toE (i := 1) (m := ol.length) (T := tInt) rfl (by simp only [List.length_set]) hw) (List.Sublist.refl _)) ?_
          refine h_done (by kernel_rfl) ?_
          refine q_cast (F' := [(1, .int .i64 n), (7, .slice a5 (ol.set (((l[k]).shard).toNat) (ol[((l[k]).shard).toNat] + ((l[k]).at_ - last))).length 20), (10, .pointer (some ⟨B10, 0, none⟩)), (37, .slice al l.length cl), (38, .int .i64 (l.length : Int)), (39, .int .i64 (k : Int))]) (H := [box B10 [.int .i64 ((l[k]).at_), .int .i64 ((l[k]).shard)] 35, own tInt S6 a5 20 (ol.set (((l[k]).shard).toNat) (ol[((l[k]).shard).toNat] + ((l[k]).at_ - last))), base w0]) (H' := [box B10 [.int .i64 ((l[k]).at_), .int .i64 ((l[k]).shard)] 35, own tInt S6 a5 20 (ol.set (((l[k]).shard).toNat) (ol[((l[k]).shard).toNat] + ((l[k]).at_ - last))), base w0]) (Sub.cons rfl (Sub.cons (by simp only [List.length_set, List.length_reverse]; rfl) (Sub.cons rfl (Sub.cons rfl (Sub.cons rfl (Sub.cons rfl (Sub.nil _))))))) (by rfl) ?_
          refine q_then ?_
          refine c_region ?_
          refine o_pure (p_fieldAddr (B := B10) (j := 0) (j' := 0) rfl fo35_0 rfl) rfl rfl rfl ?_
          refine o_pure (p_load (i := 0) (v := .int .i64 ((l[k]).at_)) rfl rfl sh3 rfl) rfl rfl rfl ?_
          refine o_pure (p_assign (v := .int .i64 ((l[k]).at_)) rfl) rfl rfl rfl ?_
          refine o_nil ?_
          refine q_block_normal (q_then ?_)
          refine c_region ?_
          refine o_pure (p_addb (p := (k : Int)) (q := 1) rfl rfl (by omega)) rfl rfl rfl ?_
          refine o_pure (p_move (v := .int .i64 ((k : Int) + 1)) rfl) rfl rfl rfl ?_
          refine o_nil ?_
          refine q_round hK8 ((l[k]).at_, k + 1, (ol.set (((l[k]).shard).toNat) (ol[((l[k]).shard).toNat] + ((l[k]).at_ - last)))) ?_ ?_ ?_ ?_
          · clear hK8
            exact hI.next (by omega) hpt.1 (by omega) (by omega) rfl
          · (try dsimp only); omega
          · exact Sub.cons rfl (Sub.cons rfl (Sub.cons rfl (Sub.cons rfl (Sub.cons rfl (Sub.cons rfl (Sub.nil _))))))
          · exact fun _ hw => HeapIs.pick hw [1, 2] (by decide) rfl
        · simp only [decide_eq_false_iff_not, Int.not_lt] at hc9
          have hdn := hI.done (by omega)
          refine c_exit ?_
          refine q_then_exit (q_then_exit (q_block_exit (q_then ?_)))
          refine c_seq ?_
          refine c_region ?_
          refine o_pure (p_move (v := .slice a5 ol.length 20) rfl) rfl rfl rfl ?_
          refine o_pure (p_move (v := .int .i64 n) rfl) rfl rfl rfl ?_
          refine o_pure (p_sliceH (L := ol) (T := tInt) (h := n) rfl rfl Try.underlying23 sz3 (by omega) (by omega) (rd_own (i := 0) rfl)) rfl rfl rfl ?_
          refine o_pure (p_assign (v := .slice a5 (ol.take n.toNat).length 20) rfl) rfl rfl rfl ?_
          refine o_pure (p_assign (v := .int .i64 0) rfl) rfl rfl rfl ?_
          refine o_nil ?_
          refine q_then ?_
          refine c_ret ?_
          refine q_shrinkC (i := 0) (hi := n.toNat) (T := tInt) rfl (by omega) ?_
          obtain ⟨hv1, hv2⟩ : _ ∧ _ := by first | exact Rg.sh1 (l := l) (n := n) (by assumption) | exact Rg.sh2 (n := n) hck (by omega) | exact Rg.sh3 (n := n) hck hnn (by omega) | exact Rg.sh4 (n := n) hck hnn hpos
          have hr0 : ((ol.take n.toNat) : List Int) = (Rg.shares l n) := by
            first | exact hv1.symm | exact hv2.symm | (rw [hv1, hdn])
          have hr1 : (0 : Int) = (Rg.shErr l n) := by
            first | exact hv1.symm | exact hv2.symm | (rw [hv1, hdn])
          refine q_endM (p := (a5, 20)) S6 (rt2 rfl (r_tmp rfl) (r_tmp rfl)) (i := 1) rfl ?_ ?_ ?_
          · exact (by have hcc := congr (congrArg (fun (y0 : List Int) (y1 : Int) => (.tuple #[.slice a5 y0.length 20, .int .i64 y1] : Value)) hr0) hr1; exact hcc)
          · exact fun w hw => hw.above (i := 1) (j := 0) (by decide) rfl rfl
          · intro w hw; exact Eq.mp (congrArg (fun y => SlO tInt _ w a5 20 y) hr0) ((hw.at (i := 0) rfl).here)
end Go.Proofs.Ytgjdmnljnimamaa
