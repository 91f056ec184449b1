/- The walks, printed by a program from the translation and a specification. -/
import Derived.Test.YtagbihjkdejdjaaLfF
import Derived.Test.YtagbihjkdejdjaaLfLaw5
import Derived.Test.YtagbihjkdejdjaaLfW5
import Derived.Test.YtagbihjkdejdjaaLfW3
namespace Go.Proofs.Ytagbihjkdejdjaa
open Go.Sx Go.RowKit
set_option maxHeartbeats 8000000 in
set_option maxRecDepth 100000 in
theorem fvictim_ok (u : DUses) (au_0 : Option Addr) (cu_0 : Nat) : Fn0 Try.prog 18 [.agg #[.int .i64 u.room, .slice au_0 u.list.length cu_0]] (fun w => Rd tUse w au_0 cu_0 u.list) (.tuple #[.int .i64 (Lfu.victim u), .int .i64 (Lfu.victimErr u)]) := by
  refine fn0 (nt := 27) (F0 := [(0, .agg #[.int .i64 u.room, .slice au_0 u.list.length cu_0])]) Try.func18 rfl Try.ntmps18 rfl rfl (fun w0 hpre => ?_)
  have hu_0 := hpre
  have hlhu_0 := hu_0.2.1
  refine c_seq ?_
  refine c_region ?_
  refine o_box (v := .agg #[.int .i64 u.room, .slice au_0 u.list.length cu_0]) rfl rfl (fun B1 => ?_)
  refine o_pure (p_assign (v := .int .i64 0) rfl) rfl rfl rfl ?_
  refine o_pure (p_assign (v := .int .i64 0) rfl) rfl rfl rfl ?_
  refine o_nil ?_
  refine q_then ?_
  refine c_seq ?_
  refine c_region ?_
  refine o_pure (p_load_agg (i := 0) (vs := [.int .i64 u.room, .slice au_0 u.list.length cu_0]) rfl rfl sh24 rfl rfl) rfl rfl rfl ?_
  refine o_call0 (v := .int .i64 (Lfu.check u)) rfl (fcheck_ok u au_0 cu_0) hf25 (fun w hw => (rd_base (i := 1) rfl hu_0) w hw) rfl ?_
  refine o_pure (p_assign (v := .int .i64 (Lfu.check u)) rfl) rfl rfl rfl ?_
  refine o_nil ?_
  refine q_then ?_
  refine c_seq ?_
  refine c_seq ?_
  refine c_region ?_
  refine o_pure (p_move (v := .int .i64 (Lfu.check u)) rfl) rfl rfl rfl ?_
  refine o_pure (p_eq (p := (Lfu.check u)) (q := 0) rfl rfl) rfl rfl rfl ?_
  refine o_pure (p_move (v := .bool ((Lfu.check u) == 0)) rfl) rfl rfl rfl ?_
  refine o_and (p := 14) 5 ((u.list.length : Int) == 0) ?_ ?_ ?_
  · intro hb2 hk
    simp only [beq_iff_eq] at hb2
    refine o_unguard 9 rfl rfl ?_
    refine o_pure (p_fieldAddr (B := B1) (j := 0) (j' := 1) rfl fo24_1 rfl) rfl rfl rfl ?_
    refine o_unguard 9 rfl rfl ?_
    refine o_pure (p_load (i := 0) (v := .slice au_0 u.list.length cu_0) rfl rfl sh22 rfl) rfl rfl rfl ?_
    refine o_unguard 9 rfl rfl ?_
    refine o_pure (p_len_slice (len := u.list.length) rfl rfl Try.underlying22) rfl rfl rfl ?_
    refine o_unguard 9 rfl rfl ?_
    refine o_pure (p_eq (p := (u.list.length : Int)) (q := 0) rfl rfl) rfl rfl rfl ?_
    refine o_pure (p_pick_true (u := .bool ((u.list.length : Int) == 0)) rfl rfl) rfl rfl rfl ?_
    exact o_sub (Sub.cons rfl (Sub.skip rfl (Sub.skip rfl (Sub.skip rfl (Sub.skip rfl (Sub.skip rfl (Sub.skip rfl (Sub.refl _)))))))) hk
  · intro hb2 hk
    refine o_guard_no rfl 9 rfl rfl rfl rfl rfl ?_
    refine o_guard_no rfl 9 rfl rfl rfl rfl rfl ?_
    refine o_guard_no rfl 9 rfl rfl rfl rfl rfl ?_
    refine o_guard_no rfl 9 rfl rfl rfl rfl rfl ?_
    refine o_pure (p_pick_false (v := .bool false) rfl rfl) rfl rfl rfl ?_
    exact o_sub (Sub.cons rfl (Sub.skip rfl (Sub.skip rfl (Sub.skip rfl (Sub.skip rfl (Sub.skip rfl (Sub.skip rfl (Sub.refl _)))))))) hk
  refine o_nil ?_
  refine q_then ?_
  refine c_cond (b := (((Lfu.check u) == 0) && ((u.list.length : Int) == 0))) rfl (fun hc3 => ?_) (fun hc3 => ?_)
  · simp only [Bool.and_eq_true, beq_iff_eq] at hc3
    refine c_region ?_
    refine o_pure (p_assign (v := .int .i64 5) rfl) rfl rfl rfl ?_
    refine o_nil ?_
    refine q_then ?_
    refine c_seq ?_
    refine c_seq ?_
    refine c_region ?_
    refine o_pure (p_move (v := .int .i64 5) rfl) rfl rfl rfl ?_
    refine o_pure (p_ne (p := 5) (q := 0) rfl rfl) rfl rfl rfl ?_
    refine o_nil ?_
    refine q_then ?_
    refine c_true rfl ?_
    refine c_seq ?_
    refine c_region ?_
    refine o_pure (p_move (v := .int .i64 5) rfl) rfl rfl rfl ?_
    refine o_pure (p_assign (v := .int .i64 0) rfl) rfl rfl rfl ?_
    refine o_pure (p_assign (v := .int .i64 5) rfl) rfl rfl rfl ?_
    refine o_nil ?_
    refine q_then ?_
    refine c_ret ?_
    refine q_then_ret ?_
    obtain ⟨hv1, hv2⟩ : _ ∧ _ := by first | exact Lfu.vic1 (u := u) (by assumption) | exact Lfu.vic2 (u := u) (by omega) (by omega) | exact Lfu.vic3 (u := u) (by assumption) (by omega) (by omega)
    have hr0 : (0 : Int) = (Lfu.victim u) := by
      exact hv1
    have hr1 : (5 : Int) = (Lfu.victimErr u) := by
      exact hv2
    refine q_end0 (v := .tuple #[.int .i64 0, .int .i64 5]) (rt2 rfl (r_tmp rfl) (r_tmp rfl)) (i := 1) rfl ?_
    exact (by have hcc := congr (congrArg (fun (y0 : Int) (y1 : Int) => (.tuple #[.int .i64 y0, .int .i64 y1] : Value)) hr0) hr1; exact hcc)
  · simp only [Bool.and_eq_false_iff, beq_eq_false_iff_ne, ne_eq] at hc3
    refine c_skip ?_
    refine q_then ?_
    refine c_seq ?_
    refine c_seq ?_
    refine c_region ?_
    refine o_pure (p_move (v := .int .i64 (Lfu.check u)) rfl) rfl rfl rfl ?_
    refine o_pure (p_ne (p := (Lfu.check u)) (q := 0) rfl rfl) rfl rfl rfl ?_
    refine o_nil ?_
    refine q_then ?_
    refine c_cond (b := ((Lfu.check u) != 0)) rfl (fun hc4 => ?_) (fun hc4 => ?_)
    · simp only [bne_iff_ne, ne_eq] at hc4
      refine c_seq ?_
      refine c_region ?_
      refine o_pure (p_move (v := .int .i64 (Lfu.check u)) rfl) rfl rfl rfl ?_
      refine o_pure (p_assign (v := .int .i64 0) rfl) rfl rfl rfl ?_
      refine o_pure (p_assign (v := .int .i64 (Lfu.check u)) rfl) rfl rfl rfl ?_
      refine o_nil ?_
      refine q_then ?_
      refine c_ret ?_
      refine q_then_ret ?_
      obtain ⟨hv1, hv2⟩ : _ ∧ _ := by first | exact Lfu.vic1 (u := u) (by assumption) | exact Lfu.vic2 (u := u) (by omega) (by omega) | exact Lfu.vic3 (u := u) (by assumption) (by omega) (by omega)
      have hr0 : (0 : Int) = (Lfu.victim u) := by
        exact hv1
      have hr1 : ((Lfu.check u) : Int) = (Lfu.victimErr u) := by
        exact hv2
      refine q_end0 (v := .tuple #[.int .i64 0, .int .i64 (Lfu.check u)]) (rt2 rfl (r_tmp rfl) (r_tmp rfl)) (i := 1) rfl ?_
      exact (by have hcc := congr (congrArg (fun (y0 : Int) (y1 : Int) => (.tuple #[.int .i64 y0, .int .i64 y1] : Value)) hr0) hr1; exact hcc)
    · simp only [bne_eq_false_iff_eq] at hc4
      have hlt := Lfu.least_lt (l := u.list) (by omega)
      refine c_skip ?_
      refine q_then ?_
      refine c_seq ?_
      refine c_held hmix [box B1 [.int .i64 u.room, .slice au_0 u.list.length cu_0] 24, base w0] rfl rfl ?_
      refine h_take (i := 0) (ls := #[true, false, false, false, false, false, false, false, false, false, false]) rfl (by kernel_rfl) (by kernel_rfl) (by kernel_rfl) (fun _ _ _ h => h) (p_fieldAddr (B := B1) (j := 0) (j' := 1) rfl fo24_1 rfl) rfl rfl rfl (fun _ hw => HeapIs.drop hw (List.Sublist.refl _)) rfl ?_
      refine h_take (i := 1) (ls := #[true, true, false, false, false, false, false, false, false, false, false]) rfl (by kernel_rfl) (by kernel_rfl) (by kernel_rfl) (fun _ _ _ h => h) (p_load (i := 0) (v := .slice au_0 u.list.length cu_0) rfl rfl sh22 rfl) rfl rfl rfl (fun _ hw => HeapIs.drop hw (List.Sublist.refl _)) rfl ?_
      refine h_take (i := 2) (ls := #[true, true, true, false, false, false, false, false, false, false, false]) rfl (by kernel_rfl) (by kernel_rfl) (by kernel_rfl) (fun _ _ _ h => h) (p_load_agg (i := 0) (vs := [.int .i64 u.room, .slice au_0 u.list.length cu_0]) rfl rfl sh24 rfl rfl) rfl rfl rfl (fun _ hw => HeapIs.drop hw (List.Sublist.refl _)) rfl ?_
      refine h_take (i := 3) (ls := #[true, true, true, true, false, false, false, false, false, false, false]) rfl (by kernel_rfl) (by kernel_rfl) (by kernel_rfl) (fun _ _ _ h => h) (p_build (cells := [.int .i64 u.room, .slice au_0 u.list.length cu_0]) fp90 ze90 rfl rfl) rfl rfl rfl (fun _ hw => HeapIs.drop hw (List.Sublist.refl _)) rfl ?_
      refine h_one (i := 4) (ls := #[true, true, true, true, true, false, false, false, false, false, false]) (by kernel_rfl) rfl rfl ?_
      refine o_box (v := .agg #[.int .i64 u.room, .slice au_0 u.list.length cu_0]) rfl rfl (fun B5_4 => ?_)
      refine o_nil ?_
      refine h_next (fun _ hw => HeapIs.drop hw (List.Sublist.cons _ (List.Sublist.cons_cons _ (List.Sublist.cons_cons _ (List.Sublist.slnil))))) ?_
      refine h_one (i := 5) (ls := #[true, true, true, true, true, true, false, false, false, false, false]) (by kernel_rfl) rfl rfl ?_
      refine o_call0 (v := .int .i64 (Lfu.least u.list : Int)) rfl (fleast_ok B5_4 u au_0 cu_0) hf53 (fun w hw => ⟨(rd_base (i := 2) rfl hu_0) w hw, (hw.at (i := 0) rfl).here⟩) rfl ?_
      refine o_nil ?_
      refine h_next (fun _ hw => HeapIs.drop hw (List.Sublist.cons _ (List.Sublist.cons_cons _ (List.Sublist.cons_cons _ (List.Sublist.slnil))))) ?_
      refine h_take (i := 6) (ls := #[true, true, true, true, true, true, true, false, false, false, false]) rfl (by kernel_rfl) (by kernel_rfl) (by kernel_rfl) (fun _ _ _ h => h) (p_indexAddr (L := u.list) (T := tUse) (i := (Lfu.least u.list : Int)) rfl rfl (rd_base (i := 1) rfl hu_0) Try.underlying22 sz42 (by omega) (by omega)) rfl rfl rfl (fun _ hw => HeapIs.drop hw (List.Sublist.cons _ (List.Sublist.cons_cons _ (List.Sublist.cons_cons _ (List.Sublist.slnil))))) rfl ?_
      refine h_take (i := 7) (ls := #[true, true, true, true, true, true, true, true, false, false, false]) rfl (by kernel_rfl) (by kernel_rfl) (by kernel_rfl) (fun _ _ _ h => h) (p_fieldAddrE rfl fo42_0) rfl rfl rfl (fun _ hw => HeapIs.drop hw (List.Sublist.cons _ (List.Sublist.cons_cons _ (List.Sublist.cons_cons _ (List.Sublist.slnil))))) rfl ?_
      refine h_take (i := 8) (ls := #[true, true, true, true, true, true, true, true, true, false, false]) rfl (by kernel_rfl) (by kernel_rfl) (by kernel_rfl) (fun _ _ _ h => h) (p_loadF (i := Lfu.least u.list) (j := 0) (T := tUse) (L := u.list) (v := .int .i64 ((u.list[Lfu.least u.list]).key)) rfl (rd_base (i := 1) rfl hu_0) (by first | assumption | omega) sh3 rfl) rfl rfl rfl (fun _ hw => HeapIs.drop hw (List.Sublist.cons _ (List.Sublist.cons_cons _ (List.Sublist.cons_cons _ (List.Sublist.slnil))))) rfl ?_
      refine h_take (i := 9) (ls := #[true, true, true, true, true, true, true, true, true, true, false]) rfl (by kernel_rfl) (by kernel_rfl) (by kernel_rfl) (fun _ _ _ h => h) (p_assign (v := .int .i64 ((u.list[Lfu.least u.list]).key)) rfl) rfl rfl rfl (fun _ hw => HeapIs.drop hw (List.Sublist.cons _ (List.Sublist.cons_cons _ (List.Sublist.cons_cons _ (List.Sublist.slnil))))) rfl ?_
      refine h_take (i := 10) (ls := #[true, true, true, true, true, true, true, true, true, true, true]) rfl (by kernel_rfl) (by kernel_rfl) (by kernel_rfl) (fun _ _ _ h => h) (p_assign (v := .int .i64 0) rfl) rfl rfl rfl (fun _ hw => HeapIs.drop hw (List.Sublist.cons _ (List.Sublist.cons_cons _ (List.Sublist.cons_cons _ (List.Sublist.slnil))))) rfl ?_
      refine h_done (by kernel_rfl) ?_
      refine q_then ?_
      refine c_ret ?_
      obtain ⟨hv1, hv2⟩ : _ ∧ _ := by first | exact Lfu.vic1 (u := u) (by assumption) | exact Lfu.vic2 (u := u) (by omega) (by omega) | exact Lfu.vic3 (u := u) (by assumption) (by omega) (by omega)
      have hr0 : ((u.list[Lfu.least u.list]).key : Int) = (Lfu.victim u) := by
        exact hv1
      have hr1 : (0 : Int) = (Lfu.victimErr u) := by
        exact hv2
      refine q_end0 (v := .tuple #[.int .i64 ((u.list[Lfu.least u.list]).key), .int .i64 0]) (rt2 rfl (r_tmp rfl) (r_tmp rfl)) (i := 2) rfl ?_
      exact (by have hcc := congr (congrArg (fun (y0 : Int) (y1 : Int) => (.tuple #[.int .i64 y0, .int .i64 y1] : Value)) hr0) hr1; exact hcc)

set_option maxHeartbeats 8000000 in
set_option maxRecDepth 100000 in
theorem fage_ok (u : DUses) (au_0 : Option Addr) (cu_0 : Nat) : FnM Try.prog 17 [.agg #[.int .i64 u.room, .slice au_0 u.list.length cu_0]] (fun w => Rd tUse w au_0 cu_0 u.list) (Option Addr × Nat) (fun p => .tuple #[.agg #[.int .i64 ((Lfu.age u).room), .slice p.1 ((Lfu.age u).list).length p.2], .int .i64 (Lfu.check u)]) (fun p S w => SlO tUse S w p.1 p.2 ((Lfu.age u).list)) := by
  refine fnM (nt := 48) (F0 := [(0, .agg #[.int .i64 u.room, .slice au_0 u.list.length cu_0])]) Try.func17 rfl Try.ntmps17 rfl rfl (fun w0 hpre => ?_)
  have hu_0 := hpre
  have hlhu_0 := hu_0.2.1
  refine c_seq ?_
  refine c_region ?_
  refine o_box (v := .agg #[.int .i64 u.room, .slice au_0 u.list.length cu_0]) rfl rfl (fun B1 => ?_)
  refine o_alloc ze24 rfl (fun B2 => ?_)
  refine o_pure (p_assign (v := .int .i64 0) rfl) rfl rfl rfl ?_
  refine o_nil ?_
  refine q_then ?_
  refine c_seq ?_
  refine c_seq ?_
  refine c_region ?_
  refine o_pure (p_load_agg (i := 1) (vs := [.int .i64 u.room, .slice au_0 u.list.length cu_0]) rfl rfl sh24 rfl rfl) rfl rfl rfl ?_
  refine o_call0 (v := .int .i64 (Lfu.check u)) rfl (fcheck_ok u au_0 cu_0) hf25 (fun w hw => (rd_base (i := 2) rfl hu_0) w hw) rfl ?_
  refine o_pure (p_assign (v := .int .i64 (Lfu.check u)) rfl) rfl rfl rfl ?_
  refine o_nil ?_
  refine q_then ?_
  refine c_seq ?_
  refine c_region ?_
  refine o_pure (p_move (v := .int .i64 (Lfu.check u)) rfl) rfl rfl rfl ?_
  refine o_pure (p_ne (p := (Lfu.check u)) (q := 0) rfl rfl) rfl rfl rfl ?_
  refine o_nil ?_
  refine q_then ?_
  refine c_cond (b := ((Lfu.check u) != 0)) rfl (fun hc3 => ?_) (fun hc3 => ?_)
  · simp only [bne_iff_ne, ne_eq] at hc3
    refine c_seq ?_
    refine c_region ?_
    refine o_pure (p_build (cells := [.int .i64 0, .slice none 0 0]) fp24 ze24 rfl rfl) rfl rfl rfl ?_
    refine o_pure (p_move (v := .int .i64 (Lfu.check u)) rfl) rfl rfl rfl ?_
    refine o_storeN (i := 0) (vs := [.int .i64 0, .slice none 0 0]) (cs' := [.int .i64 0, .slice none 0 0]) rfl rfl rfl sz24 rfl rfl rfl rfl ?_
    refine o_pure (p_assign (v := .int .i64 (Lfu.check u)) rfl) rfl rfl rfl ?_
    refine o_nil ?_
    refine q_then ?_
    refine c_ret ?_
    refine q_then_ret ?_
    have hr0 : (0 : Int) = (Lfu.age u).room := by
      first | (symm; assumption) | (rw [show Lfu.age u = Lfu.zero from if_neg (by assumption)]; rfl) | (rw [show Lfu.age u = ⟨u.room, u.list.map Lfu.old⟩ from if_pos (by assumption)]; first | exact hI.1 | exact hI.2.done (by omega))
    have hr1 : ([] : List DUse) = (Lfu.age u).list := by
      first | (symm; assumption) | (rw [show Lfu.age u = Lfu.zero from if_neg (by assumption)]; rfl) | (rw [show Lfu.age u = ⟨u.room, u.list.map Lfu.old⟩ from if_pos (by assumption)]; first | exact hI.1 | exact hI.2.done (by omega))
    refine q_endM (p := (none, 0)) (fun _ => False) (rt2 rfl (r_cell (i := 0) rfl rfl sh24 rfl) (r_tmp rfl)) (i := 2) rfl ?_ ?_ ?_
    · exact (by have hcc := congr (congrArg (fun (y0 : Int) (y1 : List DUse) => (.tuple #[.agg #[.int .i64 y0, .slice none y1.length 0], .int .i64 (Lfu.check u)] : Value)) hr0) hr1; exact hcc)
    · intro w hw b hb; exact hb.elim
    · intro w hw; exact Eq.mp (congrArg (fun y => SlO tUse _ w none 0 y) hr1) (SlO.nil tUse w)
  · simp only [bne_eq_false_iff_eq] at hc3
    have hok := Lfu.ok_of hc3
    have hroom := hok.room
    have hlen := hok.len
    refine c_skip ?_
    refine q_then ?_
    refine c_seq ?_
    refine c_region ?_
    refine o_pure (p_load_agg (i := 1) (vs := [.int .i64 u.room, .slice au_0 u.list.length cu_0]) rfl rfl sh24 rfl rfl) rfl rfl rfl ?_
    refine o_callX (pre := []) (R := [box B2 [.int .i64 0, .slice none 0 0] 24, box B1 [.int .i64 u.room, .slice au_0 u.list.length cu_0] 24, base w0]) rfl (fowned_ok u au_0 cu_0 (by omega)) hf50 rfl (fun w hw => (rdX (i := 2) (js := []) rfl (by decide) rfl (fun _ hA => slR_base hu_0 hA)) w hw) rfl ?_
    rintro ⟨B4, a5, c6, S7⟩
    refine o_asH (H' := [box B4 [.int .i64 u.room, .slice a5 u.list.length c6] 90, own tUse S7 a5 c6 u.list, box B2 [.int .i64 0, .slice none 0 0] 24, box B1 [.int .i64 u.room, .slice au_0 u.list.length cu_0] 24, base w0]) rfl ?_
    refine o_pure (p_assign (v := .pointer (some ⟨B4, 0, none⟩)) rfl) rfl rfl rfl ?_
    refine o_nil ?_
    refine q_then ?_
    refine c_seq ?_
    refine c_seq ?_
    refine c_region ?_
    refine o_pure (p_move (v := .pointer (some ⟨B4, 0, none⟩)) rfl) rfl rfl rfl ?_
    refine o_pure (p_nilCheck rfl) rfl rfl rfl ?_
    refine o_pure (p_fieldAddr (B := B4) (j := 0) (j' := 0) rfl fo90_0 rfl) rfl rfl rfl ?_
    refine o_pure (p_fieldAddr (B := B4) (j := 0) (j' := 1) rfl fo24_1 rfl) rfl rfl rfl ?_
    refine o_pure (p_load (i := 0) (v := .slice a5 u.list.length c6) rfl rfl sh22 rfl) rfl rfl rfl ?_
    refine o_pure (p_len_slice (len := u.list.length) rfl rfl Try.underlying22) rfl rfl rfl ?_
    refine o_pure (p_move (v := .int .i64 0) rfl) rfl rfl rfl ?_
    refine o_nil ?_
    refine q_then ?_
    refine c_block ?_
    refine c_loop (St := Nat × DUses × Option Addr × Nat × (Nat → Prop))
      (fun ⟨k, cc, acc_0, ccc_0, Scc_0⟩ => [(2, .pointer (some ⟨B2, 0, none⟩)), (5, .pointer (some ⟨B4, 0, none⟩)), (20, .int .i64 (u.list.length : Int)), (21, .int .i64 (k : Int))])
      (fun ⟨k, cc, acc_0, ccc_0, Scc_0⟩ => [box B4 [.int .i64 cc.room, .slice acc_0 cc.list.length ccc_0] 90, own tUse Scc_0 acc_0 ccc_0 cc.list, box B2 [.int .i64 0, .slice none 0 0] 24, box B1 [.int .i64 u.room, .slice au_0 u.list.length cu_0] 24, base w0])
      (fun ⟨k, cc, acc_0, ccc_0, Scc_0⟩ => cc.room = u.room ∧ Lfu.GInv u.list cc.list k)
      (fun ⟨k, cc, acc_0, ccc_0, Scc_0⟩ => u.list.length - k)
      (0, u, a5, c6, S7) ?_ (Sub.cons rfl (Sub.cons rfl (Sub.cons rfl (Sub.cons rfl (Sub.nil _))))) (fun _ hw => hw) ?_
    · exact ⟨rfl, Lfu.GInv.start _⟩
    rintro ⟨k, cc, acc_0, ccc_0, Scc_0⟩ hI K hK9
    have hul := hI.2.len
    show SC _ _ Try.prog 48 w0 _ _ [(2, .pointer (some ⟨B2, 0, none⟩)), (5, .pointer (some ⟨B4, 0, none⟩)), (20, .int .i64 (u.list.length : Int)), (21, .int .i64 (k : Int))] [box B4 [.int .i64 cc.room, .slice acc_0 cc.list.length ccc_0] 90, own tUse Scc_0 acc_0 ccc_0 cc.list, box B2 [.int .i64 0, .slice none 0 0] 24, box B1 [.int .i64 u.room, .slice au_0 u.list.length cu_0] 24, base w0]
    refine c_seq ?_
    refine c_region ?_
    refine o_pure (p_lt (p := (k : Int)) (q := (u.list.length : Int)) rfl rfl) rfl rfl rfl ?_
    refine o_nil ?_
    refine q_then ?_
    refine c_seq ?_
    refine c_cond (b := decide ((k : Int) < (u.list.length : Int))) rfl (fun hc10 => ?_) (fun hc10 => ?_)
    · simp only [decide_eq_true_eq] at hc10
      have hcb := hI.2.cnt hok (by omega)
      have hhb := Lfu.half_bd hcb
      refine c_skip ?_
      refine q_then ?_
      refine c_seq ?_
      refine c_block ?_
      refine c_seq ?_
      refine c_region ?_
      refine o_pure (p_move (v := .int .i64 (k : Int)) rfl) rfl rfl rfl ?_
      refine o_pure (p_assign (v := .int .i64 (k : Int)) rfl) rfl rfl rfl ?_
      refine o_nil ?_
      refine q_then ?_
      refine c_held hmix [box B4 [.int .i64 cc.room, .slice acc_0 cc.list.length ccc_0] 90, ownE tUse Scc_0 acc_0 ccc_0 (cc.list.length), box B2 [.int .i64 0, .slice none 0 0] 24, box B1 [.int .i64 u.room, .slice au_0 u.list.length cu_0] 24, base w0] rfl rfl ?_
      refine h_take (i := 0) (ls := #[true, false, false, false, false, false, false, false, false, false, false, false, false, false, false, false, false, false, false, false]) rfl (by kernel_rfl) (by kernel_rfl) (by kernel_rfl) (fun _ _ _ h => h) (p_move (v := .pointer (some ⟨B4, 0, none⟩)) rfl) rfl rfl rfl (fun _ hw => HeapIs.drop (HeapIs.toE (i := 1) (m := cc.list.length) (T := tUse) rfl (by simp only [List.length_set]) hw) (List.Sublist.refl _)) rfl ?_
      refine h_take (i := 1) (ls := #[true, true, false, false, false, false, false, false, false, false, false, false, false, false, false, false, false, false, false, false]) rfl (by kernel_rfl) (by kernel_rfl) (by kernel_rfl) (fun _ _ _ h => h) (p_nilCheck rfl) rfl rfl rfl (fun _ hw => HeapIs.drop (HeapIs.toE (i := 1) (m := cc.list.length) (T := tUse) rfl (by simp only [List.length_set]) hw) (List.Sublist.refl _)) rfl ?_
      refine h_take (i := 2) (ls := #[true, true, true, false, false, false, false, false, false, false, false, false, false, false, false, false, false, false, false, false]) rfl (by kernel_rfl) (by kernel_rfl) (by kernel_rfl) (fun _ _ _ h => h) (p_fieldAddr (B := B4) (j := 0) (j' := 0) rfl fo90_0 rfl) rfl rfl rfl (fun _ hw => HeapIs.drop (HeapIs.toE (i := 1) (m := cc.list.length) (T := tUse) rfl (by simp only [List.length_set]) hw) (List.Sublist.refl _)) rfl ?_
      refine h_take (i := 3) (ls := #[true, true, true, true, false, false, false, false, false, false, false, false, false, false, false, false, false, false, false, false]) rfl (by kernel_rfl) (by kernel_rfl) (by kernel_rfl) (fun _ _ _ h => h) (p_fieldAddr (B := B4) (j := 0) (j' := 1) rfl fo24_1 rfl) rfl rfl rfl (fun _ hw => HeapIs.drop (HeapIs.toE (i := 1) (m := cc.list.length) (T := tUse) rfl (by simp only [List.length_set]) hw) (List.Sublist.refl _)) rfl ?_
      refine h_take (i := 4) (ls := #[true, true, true, true, true, false, false, false, false, false, false, false, false, false, false, false, false, false, false, false]) rfl (by kernel_rfl) (by kernel_rfl) (by kernel_rfl) (fun _ _ _ h => h) (p_load (i := 0) (v := .slice acc_0 cc.list.length ccc_0) rfl rfl sh22 rfl) rfl rfl rfl (fun _ hw => HeapIs.drop (HeapIs.toE (i := 1) (m := cc.list.length) (T := tUse) rfl (by simp only [List.length_set]) hw) (List.Sublist.refl _)) rfl ?_
      refine h_take (i := 5) (ls := #[true, true, true, true, true, true, false, false, false, false, false, false, false, false, false, false, false, false, false, false]) rfl (by kernel_rfl) (by kernel_rfl) (by kernel_rfl) (fun _ _ _ h => h) (p_move (v := .int .i64 (k : Int)) rfl) rfl rfl rfl (fun _ hw => HeapIs.drop (HeapIs.toE (i := 1) (m := cc.list.length) (T := tUse) rfl (by simp only [List.length_set]) hw) (List.Sublist.refl _)) rfl ?_
      refine h_take (i := 6) (ls := #[true, true, true, true, true, true, true, false, false, false, false, false, false, false, false, false, false, false, false, false]) rfl (by kernel_rfl) (by kernel_rfl) (by kernel_rfl) (fun _ _ _ h => h) (p_move (v := .pointer (some ⟨B4, 0, none⟩)) rfl) rfl rfl rfl (fun _ hw => HeapIs.drop (HeapIs.toE (i := 1) (m := cc.list.length) (T := tUse) rfl (by simp only [List.length_set]) hw) (List.Sublist.refl _)) rfl ?_
      refine h_take (i := 7) (ls := #[true, true, true, true, true, true, true, true, false, false, false, false, false, false, false, false, false, false, false, false]) rfl (by kernel_rfl) (by kernel_rfl) (by kernel_rfl) (fun _ _ _ h => h) (p_nilCheck rfl) rfl rfl rfl (fun _ hw => HeapIs.drop (HeapIs.toE (i := 1) (m := cc.list.length) (T := tUse) rfl (by simp only [List.length_set]) hw) (List.Sublist.refl _)) rfl ?_
      refine h_take (i := 8) (ls := #[true, true, true, true, true, true, true, true, true, false, false, false, false, false, false, false, false, false, false, false]) rfl (by kernel_rfl) (by kernel_rfl) (by kernel_rfl) (fun _ _ _ h => h) (p_fieldAddr (B := B4) (j := 0) (j' := 0) rfl fo90_0 rfl) rfl rfl rfl (fun _ hw => HeapIs.drop (HeapIs.toE (i := 1) (m := cc.list.length) (T := tUse) rfl (by simp only [List.length_set]) hw) (List.Sublist.refl _)) rfl ?_
      refine h_take (i := 9) (ls := #[true, true, true, true, true, true, true, true, true, true, false, false, false, false, false, false, false, false, false, false]) rfl (by kernel_rfl) (by kernel_rfl) (by kernel_rfl) (fun _ _ _ h => h) (p_fieldAddr (B := B4) (j := 0) (j' := 1) rfl fo24_1 rfl) rfl rfl rfl (fun _ hw => HeapIs.drop (HeapIs.toE (i := 1) (m := cc.list.length) (T := tUse) rfl (by simp only [List.length_set]) hw) (List.Sublist.refl _)) rfl ?_
      refine h_take (i := 10) (ls := #[true, true, true, true, true, true, true, true, true, true, true, false, false, false, false, false, false, false, false, false]) rfl (by kernel_rfl) (by kernel_rfl) (by kernel_rfl) (fun _ _ _ h => h) (p_load (i := 0) (v := .slice acc_0 cc.list.length ccc_0) rfl rfl sh22 rfl) rfl rfl rfl (fun _ hw => HeapIs.drop (HeapIs.toE (i := 1) (m := cc.list.length) (T := tUse) rfl (by simp only [List.length_set]) hw) (List.Sublist.refl _)) rfl ?_
      refine h_take (i := 11) (ls := #[true, true, true, true, true, true, true, true, true, true, true, true, false, false, false, false, false, false, false, false]) rfl (by kernel_rfl) (by kernel_rfl) (by kernel_rfl) (fun _ _ _ h => h) (p_move (v := .int .i64 (k : Int)) rfl) rfl rfl rfl (fun _ hw => HeapIs.drop (HeapIs.toE (i := 1) (m := cc.list.length) (T := tUse) rfl (by simp only [List.length_set]) hw) (List.Sublist.refl _)) rfl ?_
      refine h_take (i := 12) (ls := #[true, true, true, true, true, true, true, true, true, true, true, true, true, false, false, false, false, false, false, false]) rfl (by kernel_rfl) (by kernel_rfl) (by kernel_rfl) (fun _ _ _ h => h) (p_indexAddrE (T := tUse) (i := (k : Int)) (j := 1) rfl rfl rfl Try.underlying22 sz42 (by omega) (by omega)) rfl rfl rfl (fun _ hw => HeapIs.drop (HeapIs.toE (i := 1) (m := cc.list.length) (T := tUse) rfl (by simp only [List.length_set]) hw) (List.Sublist.refl _)) rfl ?_
      refine h_take (i := 13) (ls := #[true, true, true, true, true, true, true, true, true, true, true, true, true, true, false, false, false, false, false, false]) rfl (by kernel_rfl) (by kernel_rfl) (by kernel_rfl) (fun _ _ _ h => h) (p_fieldAddrE rfl fo42_1) rfl rfl rfl (fun _ hw => HeapIs.drop (HeapIs.toE (i := 1) (m := cc.list.length) (T := tUse) rfl (by simp only [List.length_set]) hw) (List.Sublist.refl _)) rfl ?_
      refine h_one (i := 14) (ls := #[true, true, true, true, true, true, true, true, true, true, true, true, true, true, true, false, false, false, false, false]) (by kernel_rfl) rfl rfl ?_
      refine o_pure (p_loadF (i := k) (j := 1) (T := tUse) (L := cc.list) (v := .int .i64 ((cc.list[k]).count)) rfl (rd_own (i := 1) rfl) (by first | assumption | omega) sh3 rfl) rfl rfl rfl ?_
      refine o_nil ?_
      refine h_next (fun _ hw => HeapIs.drop (HeapIs.toE (i := 1) (m := cc.list.length) (T := tUse) rfl (by simp only [List.length_set]) hw) (List.Sublist.refl _)) ?_
      refine h_take (i := 15) (ls := #[true, true, true, true, true, true, true, true, true, true, true, true, true, true, true, true, false, false, false, false]) rfl (by kernel_rfl) (by kernel_rfl) (by kernel_rfl) (fun _ _ _ h => h) (p_quob (p := (cc.list[k]).count) (q := 2) rfl rfl (by decide) (by omega)) rfl rfl rfl (fun _ hw => HeapIs.drop (HeapIs.toE (i := 1) (m := cc.list.length) (T := tUse) rfl (by simp only [List.length_set]) hw) (List.Sublist.refl _)) rfl ?_
      refine h_take (i := 16) (ls := #[true, true, true, true, true, true, true, true, true, true, true, true, true, true, true, true, true, false, false, false]) rfl (by kernel_rfl) (by kernel_rfl) (by kernel_rfl) (fun _ _ _ h => h) (p_max (p := 1) (q := (((cc.list[k]).count).tdiv 2)) rfl rfl) rfl rfl rfl (fun _ hw => HeapIs.drop (HeapIs.toE (i := 1) (m := cc.list.length) (T := tUse) rfl (by simp only [List.length_set]) hw) (List.Sublist.refl _)) rfl ?_
      refine h_take (i := 17) (ls := #[true, true, true, true, true, true, true, true, true, true, true, true, true, true, true, true, true, true, false, false]) rfl (by kernel_rfl) (by kernel_rfl) (by kernel_rfl) (fun _ _ _ h => h) (p_indexAddrE (T := tUse) (i := (k : Int)) (j := 1) rfl rfl rfl Try.underlying22 sz42 (by omega) (by omega)) rfl rfl rfl (fun _ hw => HeapIs.drop (HeapIs.toE (i := 1) (m := cc.list.length) (T := tUse) rfl (by simp only [List.length_set]) hw) (List.Sublist.refl _)) rfl ?_
      refine h_take (i := 18) (ls := #[true, true, true, true, true, true, true, true, true, true, true, true, true, true, true, true, true, true, true, false]) rfl (by kernel_rfl) (by kernel_rfl) (by kernel_rfl) (fun _ _ _ h => h) (p_fieldAddrE rfl fo42_1) rfl rfl rfl (fun _ hw => HeapIs.drop (HeapIs.toE (i := 1) (m := cc.list.length) (T := tUse) rfl (by simp only [List.length_set]) hw) (List.Sublist.refl _)) rfl ?_
      refine h_one (i := 19) (ls := #[true, true, true, true, true, true, true, true, true, true, true, true, true, true, true, true, true, true, true, true]) (by kernel_rfl) rfl rfl ?_
      refine o_storeF (j := 1) (i := 1) (T := tUse) (idx := k) (v := .int .i64 (max 1 (((cc.list[k]).count).tdiv 2))) (vs := [.int .i64 (max 1 (((cc.list[k]).count).tdiv 2))]) (z := (⟨(cc.list[k]).key, (max 1 (((cc.list[k]).count).tdiv 2))⟩ : DUse)) rfl rfl rfl rfl (by first | assumption | omega | (simp only [List.length_set]; omega)) sz3 rfl rfl rfl rfl (Sub.refl _) ?_
      refine o_nil ?_
      refine h_next (fun _ hw => HeapIs.drop (HeapIs.toE (i := 1) (m := cc.list.length) (T := tUse) rfl (by simp only [List.length_set]) hw) (List.Sublist.refl _)) ?_
      refine h_done (by kernel_rfl) ?_
      refine q_cast (F' := [(2, .pointer (some ⟨B2, 0, none⟩)), (5, .pointer (some ⟨B4, 0, none⟩)), (20, .int .i64 (u.list.length : Int)), (21, .int .i64 (k : Int))]) (H := [box B4 [.int .i64 cc.room, .slice acc_0 cc.list.length ccc_0] 90, own tUse Scc_0 acc_0 ccc_0 (cc.list.set k (⟨(cc.list[k]).key, (max 1 (((cc.list[k]).count).tdiv 2))⟩ : DUse)), box B2 [.int .i64 0, .slice none 0 0] 24, box B1 [.int .i64 u.room, .slice au_0 u.list.length cu_0] 24, base w0]) (H' := [box B4 [.int .i64 cc.room, .slice acc_0 (cc.list.set k (⟨(cc.list[k]).key, (max 1 (((cc.list[k]).count).tdiv 2))⟩ : DUse)).length ccc_0] 90, own tUse Scc_0 acc_0 ccc_0 (cc.list.set k (⟨(cc.list[k]).key, (max 1 (((cc.list[k]).count).tdiv 2))⟩ : DUse)), box B2 [.int .i64 0, .slice none 0 0] 24, box B1 [.int .i64 u.room, .slice au_0 u.list.length cu_0] 24, base w0]) (Sub.cons rfl (Sub.cons rfl (Sub.cons rfl (Sub.cons rfl (Sub.nil _))))) (by simp only [List.length_set, List.length_reverse]) ?_
      refine q_block_normal (q_then ?_)
      refine c_region ?_
      refine o_pure (p_addb (p := (k : Int)) (q := 1) rfl rfl (by omega)) rfl rfl rfl ?_
      refine o_pure (p_move (v := .int .i64 ((k : Int) + 1)) rfl) rfl rfl rfl ?_
      refine o_nil ?_
      refine q_round hK9 (k + 1, (⟨cc.room, (cc.list.set k (⟨(cc.list[k]).key, (max 1 (((cc.list[k]).count).tdiv 2))⟩ : DUse))⟩ : DUses), acc_0, ccc_0, Scc_0) ?_ ?_ ?_ ?_
      · clear hK9
        exact ⟨hI.1, hI.2.next (by omega)⟩
      · (try dsimp only); omega
      · exact Sub.cons rfl (Sub.cons rfl (Sub.cons rfl (Sub.cons rfl (Sub.nil _))))
      · exact fun _ hw => HeapIs.pick hw [0, 1, 2, 3, 4] (by decide) rfl
    · simp only [decide_eq_false_iff_not, Int.not_lt] at hc10
      refine c_exit ?_
      refine q_then_exit (q_then_exit (q_block_exit (q_then ?_)))
      refine c_seq ?_
      refine c_region ?_
      refine o_pure (p_move (v := .pointer (some ⟨B4, 0, none⟩)) rfl) rfl rfl rfl ?_
      refine o_pure (p_nilCheck rfl) rfl rfl rfl ?_
      refine o_pure (p_fieldAddr (B := B4) (j := 0) (j' := 0) rfl fo90_0 rfl) rfl rfl rfl ?_
      refine o_pure (p_load_agg (i := 0) (vs := [.int .i64 cc.room, .slice acc_0 cc.list.length ccc_0]) rfl rfl sh24 rfl rfl) rfl rfl rfl ?_
      refine o_storeN (i := 2) (vs := [.int .i64 cc.room, .slice acc_0 cc.list.length ccc_0]) (cs' := [.int .i64 cc.room, .slice acc_0 cc.list.length ccc_0]) rfl rfl rfl sz24 rfl rfl rfl rfl ?_
      refine o_pure (p_assign (v := .int .i64 0) rfl) rfl rfl rfl ?_
      refine o_nil ?_
      refine q_then ?_
      refine c_ret ?_
      have hr0 : (cc.room : Int) = (Lfu.age u).room := by
        first | (symm; assumption) | (rw [show Lfu.age u = Lfu.zero from if_neg (by assumption)]; rfl) | (rw [show Lfu.age u = ⟨u.room, u.list.map Lfu.old⟩ from if_pos (by assumption)]; first | exact hI.1 | exact hI.2.done (by omega))
      have hr1 : (cc.list : List DUse) = (Lfu.age u).list := by
        first | (symm; assumption) | (rw [show Lfu.age u = Lfu.zero from if_neg (by assumption)]; rfl) | (rw [show Lfu.age u = ⟨u.room, u.list.map Lfu.old⟩ from if_pos (by assumption)]; first | exact hI.1 | exact hI.2.done (by omega))
      have hr2 : (0 : Int) = (Lfu.check u) := by
        first | (symm; assumption) | (rw [show Lfu.age u = Lfu.zero from if_neg (by assumption)]; rfl) | (rw [show Lfu.age u = ⟨u.room, u.list.map Lfu.old⟩ from if_pos (by assumption)]; first | exact hI.1 | exact hI.2.done (by omega))
      refine q_endM (p := (acc_0, ccc_0)) Scc_0 (rt2 rfl (r_cell (i := 2) rfl rfl sh24 rfl) (r_tmp rfl)) (i := 4) rfl ?_ ?_ ?_
      · exact (by have hcc := congr (congr (congrArg (fun (y0 : Int) (y1 : List DUse) (y2 : Int) => (.tuple #[.agg #[.int .i64 y0, .slice acc_0 y1.length ccc_0], .int .i64 y2] : Value)) hr0) hr1) hr2; exact hcc)
      · exact fun w hw => hw.above (i := 4) (j := 1) (by decide) rfl rfl
      · intro w hw; exact Eq.mp (congrArg (fun y => SlO tUse _ w acc_0 ccc_0 y) hr1) ((hw.at (i := 1) rfl).here)
end Go.Proofs.Ytagbihjkdejdjaa
