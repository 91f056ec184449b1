/- The walks, printed by a program from the translation and a specification. -/
import Derived.Test.YthbfdhphnofacabGrF
import Derived.Test.YthbfdhphnofacabGrLaw3
import Derived.Test.YthbfdhphnofacabGrW1
namespace Go.Proofs.Ythbfdhphnofacab
open Go.Sx Go.RowKit
set_option maxHeartbeats 8000000 in
set_option maxRecDepth 100000 in
theorem gaccess_ok (h : DGreedy) (ah_0 : Option Addr) (ch_0 : Nat) (t : DItem) : FnM Try.prog 24 [.agg #[.int .i64 h.room, .int .i64 h.floor, .slice ah_0 h.things.length ch_0], .agg #[.int .i64 t.key, .int .i64 t.size, .int .i64 t.cost, .int .i64 t.worth]] (fun w => Rd tItem w ah_0 ch_0 h.things) (Option Addr × Nat × Option Addr × Nat) (fun p => .tuple #[.agg #[.int .i64 (((Greedy.access h t).1).room), .int .i64 (((Greedy.access h t).1).floor), .slice p.1 (((Greedy.access h t).1).things).length p.2.1], .bool ((Greedy.access h t).2.1), .slice p.2.2.1 ((Greedy.access h t).2.2).length p.2.2.2, .int .i64 (Greedy.accessErr h t)]) (fun p S w => SlR tItem S w p.1 p.2.1 (((Greedy.access h t).1).things) ∧ SlR tInt S w p.2.2.1 p.2.2.2 ((Greedy.access h t).2.2)) := by
  refine fnM (nt := 119) (F0 := [(0, .agg #[.int .i64 h.room, .int .i64 h.floor, .slice ah_0 h.things.length ch_0]), (1, .agg #[.int .i64 t.key, .int .i64 t.size, .int .i64 t.cost, .int .i64 t.worth])]) Try.func24 rfl Try.ntmps24 rfl rfl (fun w0 hpre => ?_)
  have hh_0 := hpre
  have hlhh_0 := hh_0.2.1
  refine c_seq ?_
  refine c_region ?_
  refine o_box (v := .agg #[.int .i64 h.room, .int .i64 h.floor, .slice ah_0 h.things.length ch_0]) rfl rfl (fun B1 => ?_)
  refine o_box (v := .agg #[.int .i64 t.key, .int .i64 t.size, .int .i64 t.cost, .int .i64 t.worth]) rfl rfl (fun B2 => ?_)
  refine o_alloc ze39 rfl (fun B3 => ?_)
  refine o_pure (p_assign (v := .bool false) rfl) rfl rfl rfl ?_
  refine o_pure (p_assign (v := .slice none 0 0) rfl) rfl rfl rfl ?_
  refine o_pure (p_assign (v := .int .i64 0) rfl) rfl rfl rfl ?_
  refine o_nil ?_
  refine q_then ?_
  refine c_seq ?_
  refine c_region ?_
  refine o_pure (p_load_agg (i := 2) (vs := [.int .i64 h.room, .int .i64 h.floor, .slice ah_0 h.things.length ch_0]) rfl rfl sh39 rfl rfl) rfl rfl rfl ?_
  refine o_call0 (v := .int .i64 (Greedy.check h)) rfl (gcheck_ok h ah_0 ch_0) hf33 (fun w hw => (rd_base (i := 3) rfl hh_0) w hw) rfl ?_
  refine o_pure (p_assign (v := .int .i64 (Greedy.check h)) rfl) rfl rfl rfl ?_
  refine o_nil ?_
  refine q_then ?_
  refine c_seq ?_
  refine c_seq ?_
  refine c_region ?_
  refine o_pure (p_move (v := .int .i64 (Greedy.check h)) rfl) rfl rfl rfl ?_
  refine o_pure (p_eq (p := (Greedy.check h)) (q := 0) rfl rfl) rfl rfl rfl ?_
  refine o_pure (p_move (v := .bool ((Greedy.check h) == 0)) rfl) rfl rfl rfl ?_
  refine o_and (p := 24) 4 (!(Greedy.right t)) ?_ ?_ ?_
  · intro hb4 hk
    simp only [beq_iff_eq] at hb4
    refine o_unguard 20 rfl rfl ?_
    refine o_pure (p_load_agg (i := 1) (vs := [.int .i64 t.key, .int .i64 t.size, .int .i64 t.cost, .int .i64 t.worth]) rfl rfl sh41 rfl rfl) rfl rfl rfl ?_
    refine o_unguard 20 rfl rfl ?_
    refine o_call0 (v := .bool (Greedy.right t)) rfl (right_ok t) hf70 (fun _ _ => trivial) rfl ?_
    refine o_unguard 20 rfl rfl ?_
    refine o_pure (p_not (b := (Greedy.right t)) rfl) rfl rfl rfl ?_
    refine o_pure (p_pick_true (u := .bool (!(Greedy.right t))) rfl rfl) rfl rfl rfl ?_
    exact o_sub (Sub.cons rfl (Sub.skip rfl (Sub.skip rfl (Sub.skip rfl (Sub.skip rfl (Sub.skip rfl (Sub.refl _))))))) hk
  · intro hb4 hk
    refine o_guard_no rfl 20 rfl rfl rfl rfl rfl ?_
    refine o_guard_no rfl 20 rfl rfl rfl rfl rfl ?_
    refine o_guard_no rfl 20 rfl rfl rfl rfl rfl ?_
    refine o_pure (p_pick_false (v := .bool false) rfl rfl) rfl rfl rfl ?_
    exact o_sub (Sub.cons rfl (Sub.skip rfl (Sub.skip rfl (Sub.skip rfl (Sub.skip rfl (Sub.skip rfl (Sub.refl _))))))) hk
  refine o_nil ?_
  refine q_then ?_
  refine c_cond (b := (((Greedy.check h) == 0) && (!(Greedy.right t)))) rfl (fun hc5 => ?_) (fun hc5 => ?_)
  · simp only [Bool.and_eq_true, beq_iff_eq, Bool.not_eq_true'] at hc5
    refine c_region ?_
    refine o_pure (p_assign (v := .int .i64 3) rfl) rfl rfl rfl ?_
    refine o_nil ?_
    refine q_then ?_
    refine c_seq ?_
    refine c_seq ?_
    refine c_region ?_
    refine o_pure (p_move (v := .int .i64 3) rfl) rfl rfl rfl ?_
    refine o_pure (p_ne (p := 3) (q := 0) rfl rfl) rfl rfl rfl ?_
    refine o_nil ?_
    refine q_then ?_
    refine c_true rfl ?_
    refine c_seq ?_
    refine c_region ?_
    refine o_pure (p_build (cells := [.int .i64 0, .int .i64 0, .slice none 0 0]) fp39 ze39 rfl rfl) rfl rfl rfl ?_
    refine o_pure (p_move (v := .int .i64 3) rfl) rfl rfl rfl ?_
    refine o_storeN (i := 0) (vs := [.int .i64 0, .int .i64 0, .slice none 0 0]) (cs' := [.int .i64 0, .int .i64 0, .slice none 0 0]) rfl rfl rfl sz39 rfl rfl rfl rfl ?_
    refine o_pure (p_assign (v := .bool false) rfl) rfl rfl rfl ?_
    refine o_pure (p_assign (v := .slice none 0 0) rfl) rfl rfl rfl ?_
    refine o_pure (p_assign (v := .int .i64 3) rfl) rfl rfl rfl ?_
    refine o_nil ?_
    refine q_then ?_
    refine c_ret ?_
    refine q_then_ret ?_
    obtain ⟨ha, hae⟩ : _ ∧ _ := by
      first | exact Greedy.acc1 (h := h) (t := t) (by assumption) | exact Greedy.acc2 (h := h) (t := t) (by assumption) | exact Greedy.acc_hit (h := h) (t := t) (by assumption) hrt (by assumption) (by omega) | exact Greedy.acc_big (h := h) (t := t) (by assumption) hrt (by assumption) (by assumption) | exact Greedy.acc_new (h := h) (t := t) (by assumption) hrt hI (by assumption)
    have hr0 : (0 : Int) = ((Greedy.access h t).1).room := by
      first | (rw [ha]; rfl) | exact hae.symm | (simp only [ha, hae]; done)
    have hr1 : (0 : Int) = ((Greedy.access h t).1).floor := by
      first | (rw [ha]; rfl) | exact hae.symm | (simp only [ha, hae]; done)
    have hr2 : ([] : List DItem) = ((Greedy.access h t).1).things := by
      first | (rw [ha]; rfl) | exact hae.symm | (simp only [ha, hae]; done)
    have hr3 : (false : Bool) = ((Greedy.access h t).2.1) := by
      first | (rw [ha]; rfl) | exact hae.symm | (simp only [ha, hae]; done)
    have hr4 : ([] : List Int) = ((Greedy.access h t).2.2) := by
      first | (rw [ha]; rfl) | exact hae.symm | (simp only [ha, hae]; done)
    have hr5 : (3 : Int) = (Greedy.accessErr h t) := by
      first | (rw [ha]; rfl) | exact hae.symm | (simp only [ha, hae]; done)
    refine q_endM (p := (none, 0, none, 0)) (fun _ => False) (rt4 rfl (r_cell (i := 0) rfl rfl sh39 rfl) (r_tmp rfl) (r_tmp rfl) (r_tmp rfl)) (i := 3) rfl ?_ ?_ ?_
    · exact (by have hcc := congr (congr (congr (congr (congr (congrArg (fun (y0 : Int) (y1 : Int) (y2 : List DItem) (y3 : Bool) (y4 : List Int) (y5 : Int) => (.tuple #[.agg #[.int .i64 y0, .int .i64 y1, .slice none y2.length 0], .bool y3, .slice none y4.length 0, .int .i64 y5] : Value)) hr0) hr1) hr2) hr3) hr4) hr5; exact hcc)
    · intro w hw b hb; exact hb.elim
    · intro w hw; exact ⟨Eq.mp (congrArg (fun y => SlR tItem _ w none 0 y) hr2) (SlR.nil tItem _ w), Eq.mp (congrArg (fun y => SlR tInt _ w none 0 y) hr4) (SlR.nil tInt _ w)⟩
  · simp only [Bool.and_eq_false_iff, beq_eq_false_iff_ne, ne_eq, Bool.not_eq_false'] at hc5
    have hro := hc5
    refine c_skip ?_
    refine q_then ?_
    refine c_seq ?_
    refine c_seq ?_
    refine c_region ?_
    refine o_pure (p_move (v := .int .i64 (Greedy.check h)) rfl) rfl rfl rfl ?_
    refine o_pure (p_ne (p := (Greedy.check h)) (q := 0) rfl rfl) rfl rfl rfl ?_
    refine o_nil ?_
    refine q_then ?_
    refine c_cond (b := ((Greedy.check h) != 0)) rfl (fun hc6 => ?_) (fun hc6 => ?_)
    · simp only [bne_iff_ne, ne_eq] at hc6
      refine c_seq ?_
      refine c_region ?_
      refine o_pure (p_build (cells := [.int .i64 0, .int .i64 0, .slice none 0 0]) fp39 ze39 rfl rfl) rfl rfl rfl ?_
      refine o_pure (p_move (v := .int .i64 (Greedy.check h)) rfl) rfl rfl rfl ?_
      refine o_storeN (i := 0) (vs := [.int .i64 0, .int .i64 0, .slice none 0 0]) (cs' := [.int .i64 0, .int .i64 0, .slice none 0 0]) rfl rfl rfl sz39 rfl rfl rfl rfl ?_
      refine o_pure (p_assign (v := .bool false) rfl) rfl rfl rfl ?_
      refine o_pure (p_assign (v := .slice none 0 0) rfl) rfl rfl rfl ?_
      refine o_pure (p_assign (v := .int .i64 (Greedy.check h)) rfl) rfl rfl rfl ?_
      refine o_nil ?_
      refine q_then ?_
      refine c_ret ?_
      refine q_then_ret ?_
      obtain ⟨ha, hae⟩ : _ ∧ _ := by
        first | exact Greedy.acc1 (h := h) (t := t) (by assumption) | exact Greedy.acc2 (h := h) (t := t) (by assumption) | exact Greedy.acc_hit (h := h) (t := t) (by assumption) hrt (by assumption) (by omega) | exact Greedy.acc_big (h := h) (t := t) (by assumption) hrt (by assumption) (by assumption) | exact Greedy.acc_new (h := h) (t := t) (by assumption) hrt hI (by assumption)
      have hr0 : (0 : Int) = ((Greedy.access h t).1).room := by
        first | (rw [ha]; rfl) | exact hae.symm | (simp only [ha, hae]; done)
      have hr1 : (0 : Int) = ((Greedy.access h t).1).floor := by
        first | (rw [ha]; rfl) | exact hae.symm | (simp only [ha, hae]; done)
      have hr2 : ([] : List DItem) = ((Greedy.access h t).1).things := by
        first | (rw [ha]; rfl) | exact hae.symm | (simp only [ha, hae]; done)
      have hr3 : (false : Bool) = ((Greedy.access h t).2.1) := by
        first | (rw [ha]; rfl) | exact hae.symm | (simp only [ha, hae]; done)
      have hr4 : ([] : List Int) = ((Greedy.access h t).2.2) := by
        first | (rw [ha]; rfl) | exact hae.symm | (simp only [ha, hae]; done)
      have hr5 : ((Greedy.check h) : Int) = (Greedy.accessErr h t) := by
        first | (rw [ha]; rfl) | exact hae.symm | (simp only [ha, hae]; done)
      refine q_endM (p := (none, 0, none, 0)) (fun _ => False) (rt4 rfl (r_cell (i := 0) rfl rfl sh39 rfl) (r_tmp rfl) (r_tmp rfl) (r_tmp rfl)) (i := 3) rfl ?_ ?_ ?_
      · exact (by have hcc := congr (congr (congr (congr (congr (congrArg (fun (y0 : Int) (y1 : Int) (y2 : List DItem) (y3 : Bool) (y4 : List Int) (y5 : Int) => (.tuple #[.agg #[.int .i64 y0, .int .i64 y1, .slice none y2.length 0], .bool y3, .slice none y4.length 0, .int .i64 y5] : Value)) hr0) hr1) hr2) hr3) hr4) hr5; exact hcc)
      · intro w hw b hb; exact hb.elim
      · intro w hw; exact ⟨Eq.mp (congrArg (fun y => SlR tItem _ w none 0 y) hr2) (SlR.nil tItem _ w), Eq.mp (congrArg (fun y => SlR tInt _ w none 0 y) hr4) (SlR.nil tInt _ w)⟩
    · simp only [bne_eq_false_iff_eq] at hc6
      have hok := Greedy.check_ok.1 hc6
      have hlen := hok.len
      have hrt := hro.resolve_left (fun h => h hc6)
      refine c_skip ?_
      refine q_then ?_
      refine c_seq ?_
      refine c_region ?_
      refine o_pure (p_load_agg (i := 2) (vs := [.int .i64 h.room, .int .i64 h.floor, .slice ah_0 h.things.length ch_0]) rfl rfl sh39 rfl rfl) rfl rfl rfl ?_
      refine o_alloc ze39 rfl (fun B7 => ?_)
      refine o_storeN (i := 0) (vs := [.int .i64 h.room, .int .i64 h.floor, .slice ah_0 h.things.length ch_0]) (cs' := [.int .i64 h.room, .int .i64 h.floor, .slice ah_0 h.things.length ch_0]) rfl rfl rfl sz39 rfl rfl rfl rfl ?_
      refine o_nil ?_
      refine q_then ?_
      refine c_seq ?_
      refine c_region ?_
      refine o_pure (p_fieldAddr (B := B1) (j := 0) (j' := 2) rfl fo39_2 rfl) rfl rfl rfl ?_
      refine o_pure (p_load (i := 3) (v := .slice ah_0 h.things.length ch_0) rfl rfl sh37 rfl) rfl rfl rfl ?_
      refine o_callM rfl (clone_Item_ok h.things ah_0 ch_0 (by first | assumption | omega)) hf71 (fun w hw => (rd_base (i := 4) rfl hh_0) w hw) rfl (fun _ _ _ _ ha hA => SlO.agree ha hA) ?_
      rintro ⟨a10, c11⟩ S8
      refine o_know (fun w hw => own_len (i := 0) (T := tItem) hw rfl) (fun hlr12 => ?_)
      refine o_pure (p_fieldAddr (B := B7) (j := 0) (j' := 2) rfl fo39_2 rfl) rfl rfl rfl ?_
      refine o_store (i := 1) (v := .slice a10 h.things.length c11) (cs' := [.int .i64 h.room, .int .i64 h.floor, .slice a10 h.things.length c11]) rfl rfl rfl sz37 rfl rfl rfl ?_
      refine o_nil ?_
      refine q_then ?_
      refine c_seq ?_
      refine c_seq ?_
      refine c_region ?_
      refine o_pure (p_fieldAddr (B := B7) (j := 0) (j' := 2) rfl fo39_2 rfl) rfl rfl rfl ?_
      refine o_pure (p_load (i := 1) (v := .slice a10 h.things.length c11) rfl rfl sh37 rfl) rfl rfl rfl ?_
      refine o_pure (p_makeFunc (vs := [.pointer (some ⟨B2, 0, none⟩)]) rfl) rfl rfl rfl ?_
      refine o_call0 (v := .int .i64 (idxF (fun x : DItem => (x.key == t.key)) h.things)) rfl (indexFunc_Item_ok h.things a10 c11 73 [.pointer (some ⟨B2, 0, none⟩)] (fun x => (x.key == t.key)) (fun w => (box B2 [.int .i64 t.key, .int .i64 t.size, .int .i64 t.cost, .int .i64 t.worth] 41).A w) (fun _ _ hb h => box_below hb h) (fun x => access1_ok x B2 t) hf73) hf72 (fun w hw => ⟨(rd_own (i := 0) rfl) w hw, (hw.at (i := 3) rfl).here⟩) rfl ?_
      refine o_pure (p_assign (v := .int .i64 (idxF (fun x : DItem => (x.key == t.key)) h.things)) rfl) rfl rfl rfl ?_
      refine o_nil ?_
      refine q_then ?_
      refine c_seq ?_
      refine c_region ?_
      refine o_pure (p_move (v := .int .i64 (idxF (fun x : DItem => (x.key == t.key)) h.things)) rfl) rfl rfl rfl ?_
      refine o_pure (p_ge (p := (idxF (fun x : DItem => (x.key == t.key)) h.things)) (q := 0) rfl rfl) rfl rfl rfl ?_
      refine o_nil ?_
      refine q_then ?_
      refine c_cond (b := decide (0 ≤ (idxF (fun x : DItem => (x.key == t.key)) h.things))) rfl (fun hc13 => ?_) (fun hc13 => ?_)
      · simp only [decide_eq_true_eq] at hc13
        have hix := idxF_lt (fun x : DItem => (x.key == t.key)) h.things
        refine c_seq ?_
        refine c_held hmix [ownE tItem S8 a10 c11 (h.things.length), box B7 [.int .i64 h.room, .int .i64 h.floor, .slice a10 h.things.length c11] 39, box B3 [.int .i64 0, .int .i64 0, .slice none 0 0] 39, box B2 [.int .i64 t.key, .int .i64 t.size, .int .i64 t.cost, .int .i64 t.worth] 41, box B1 [.int .i64 h.room, .int .i64 h.floor, .slice ah_0 h.things.length ch_0] 39, base w0] rfl rfl ?_
        refine h_take (i := 0) (ls := #[true, false, false, false, false, false, false, false, false, false, false, false, false, false]) rfl (by kernel_rfl) (by kernel_rfl) (by kernel_rfl) (fun _ _ _ h => h) (p_fieldAddr (B := B7) (j := 0) (j' := 2) rfl fo39_2 rfl) rfl rfl rfl (fun _ hw => HeapIs.drop (HeapIs.toE (i := 0) (m := h.things.length) (T := tItem) rfl (by simp only [List.length_set]) hw) (List.Sublist.refl _)) rfl ?_
        refine h_take (i := 1) (ls := #[true, true, false, false, false, false, false, false, false, false, false, false, false, false]) rfl (by kernel_rfl) (by kernel_rfl) (by kernel_rfl) (fun _ _ _ h => h) (p_load (i := 1) (v := .slice a10 h.things.length c11) rfl rfl sh37 rfl) rfl rfl rfl (fun _ hw => HeapIs.drop (HeapIs.toE (i := 0) (m := h.things.length) (T := tItem) rfl (by simp only [List.length_set]) hw) (List.Sublist.refl _)) rfl ?_
        refine h_take (i := 2) (ls := #[true, true, true, false, false, false, false, false, false, false, false, false, false, false]) rfl (by kernel_rfl) (by kernel_rfl) (by kernel_rfl) (fun _ _ _ h => h) (p_move (v := .int .i64 (idxF (fun x : DItem => (x.key == t.key)) h.things)) rfl) rfl rfl rfl (fun _ hw => HeapIs.drop (HeapIs.toE (i := 0) (m := h.things.length) (T := tItem) rfl (by simp only [List.length_set]) hw) (List.Sublist.refl _)) rfl ?_
        refine h_take (i := 3) (ls := #[true, true, true, true, false, false, false, false, false, false, false, false, false, false]) rfl (by kernel_rfl) (by kernel_rfl) (by kernel_rfl) (fun _ _ _ h => h) (p_fieldAddr (B := B7) (j := 0) (j' := 1) rfl fo39_1 rfl) rfl rfl rfl (fun _ hw => HeapIs.drop (HeapIs.toE (i := 0) (m := h.things.length) (T := tItem) rfl (by simp only [List.length_set]) hw) (List.Sublist.refl _)) rfl ?_
        refine h_take (i := 4) (ls := #[true, true, true, true, true, false, false, false, false, false, false, false, false, false]) rfl (by kernel_rfl) (by kernel_rfl) (by kernel_rfl) (fun _ _ _ h => h) (p_load (i := 1) (v := .int .i64 h.floor) rfl rfl sh3 rfl) rfl rfl rfl (fun _ hw => HeapIs.drop (HeapIs.toE (i := 0) (m := h.things.length) (T := tItem) rfl (by simp only [List.length_set]) hw) (List.Sublist.refl _)) rfl ?_
        refine h_take (i := 5) (ls := #[true, true, true, true, true, true, false, false, false, false, false, false, false, false]) rfl (by kernel_rfl) (by kernel_rfl) (by kernel_rfl) (fun _ _ _ h => h) (p_fieldAddr (B := B7) (j := 0) (j' := 2) rfl fo39_2 rfl) rfl rfl rfl (fun _ hw => HeapIs.drop (HeapIs.toE (i := 0) (m := h.things.length) (T := tItem) rfl (by simp only [List.length_set]) hw) (List.Sublist.refl _)) rfl ?_
        refine h_take (i := 6) (ls := #[true, true, true, true, true, true, true, false, false, false, false, false, false, false]) rfl (by kernel_rfl) (by kernel_rfl) (by kernel_rfl) (fun _ _ _ h => h) (p_load (i := 1) (v := .slice a10 h.things.length c11) rfl rfl sh37 rfl) rfl rfl rfl (fun _ hw => HeapIs.drop (HeapIs.toE (i := 0) (m := h.things.length) (T := tItem) rfl (by simp only [List.length_set]) hw) (List.Sublist.refl _)) rfl ?_
        refine h_take (i := 7) (ls := #[true, true, true, true, true, true, true, true, false, false, false, false, false, false]) rfl (by kernel_rfl) (by kernel_rfl) (by kernel_rfl) (fun _ _ _ h => h) (p_move (v := .int .i64 (idxF (fun x : DItem => (x.key == t.key)) h.things)) rfl) rfl rfl rfl (fun _ hw => HeapIs.drop (HeapIs.toE (i := 0) (m := h.things.length) (T := tItem) rfl (by simp only [List.length_set]) hw) (List.Sublist.refl _)) rfl ?_
        refine h_take (i := 8) (ls := #[true, true, true, true, true, true, true, true, true, false, false, false, false, false]) rfl (by kernel_rfl) (by kernel_rfl) (by kernel_rfl) (fun _ _ _ h => h) (p_indexAddrE (T := tItem) (i := (idxF (fun x : DItem => (x.key == t.key)) h.things)) (j := 0) rfl rfl rfl Try.underlying37 sz41 (by omega) (by omega)) rfl rfl rfl (fun _ hw => HeapIs.drop (HeapIs.toE (i := 0) (m := h.things.length) (T := tItem) rfl (by simp only [List.length_set]) hw) (List.Sublist.refl _)) rfl ?_
        refine h_one (i := 9) (ls := #[true, true, true, true, true, true, true, true, true, true, false, false, false, false]) (by kernel_rfl) rfl rfl ?_
        refine o_pure (p_loadEn (i := (idxF (fun x : DItem => (x.key == t.key)) h.things).toNat) (T := tItem) (L := h.things) (vs := [.int .i64 ((h.things[(idxF (fun x : DItem => (x.key == t.key)) h.things).toNat]).key), .int .i64 ((h.things[(idxF (fun x : DItem => (x.key == t.key)) h.things).toNat]).size), .int .i64 ((h.things[(idxF (fun x : DItem => (x.key == t.key)) h.things).toNat]).cost), .int .i64 ((h.things[(idxF (fun x : DItem => (x.key == t.key)) h.things).toNat]).worth)]) rfl (rd_own (i := 0) rfl) (by first | assumption | omega) sh41 rfl) rfl rfl rfl ?_
        refine o_nil ?_
        refine h_next (fun _ hw => HeapIs.drop (HeapIs.toE (i := 0) (m := h.things.length) (T := tItem) rfl (by simp only [List.length_set]) hw) (List.Sublist.refl _)) ?_
        refine h_one (i := 10) (ls := #[true, true, true, true, true, true, true, true, true, true, true, false, false, false]) (by kernel_rfl) rfl rfl ?_
        refine o_call0 (v := .int .i64 (Greedy.fresh h.floor (h.things[(idxF (fun x : DItem => (x.key == t.key)) h.things).toNat]))) rfl (fresh_ok h.floor (h.things[(idxF (fun x : DItem => (x.key == t.key)) h.things).toNat]) (by first | assumption | exact ⟨hok.floor, hok.right _ (List.getElem_mem _)⟩ | exact ⟨hI.fits.fl, hI.right⟩ | exact ⟨hy1.fits.fl, hy1.fits.right _ (List.getElem_mem _)⟩ | exact ⟨hy1.fits.fl, hy1.right⟩)) hf74 (fun _ _ => trivial) rfl ?_
        refine o_nil ?_
        refine h_next (fun _ hw => HeapIs.drop (HeapIs.toE (i := 0) (m := h.things.length) (T := tItem) rfl (by simp only [List.length_set]) hw) (List.Sublist.refl _)) ?_
        refine h_take (i := 11) (ls := #[true, true, true, true, true, true, true, true, true, true, true, true, false, false]) rfl (by kernel_rfl) (by kernel_rfl) (by kernel_rfl) (fun _ _ _ h => h) (p_indexAddrE (T := tItem) (i := (idxF (fun x : DItem => (x.key == t.key)) h.things)) (j := 0) rfl rfl rfl Try.underlying37 sz41 (by omega) (by omega)) rfl rfl rfl (fun _ hw => HeapIs.drop (HeapIs.toE (i := 0) (m := h.things.length) (T := tItem) rfl (by simp only [List.length_set]) hw) (List.Sublist.refl _)) rfl ?_
        refine h_take (i := 12) (ls := #[true, true, true, true, true, true, true, true, true, true, true, true, true, false]) rfl (by kernel_rfl) (by kernel_rfl) (by kernel_rfl) (fun _ _ _ h => h) (p_fieldAddrE rfl fo41_3) rfl rfl rfl (fun _ hw => HeapIs.drop (HeapIs.toE (i := 0) (m := h.things.length) (T := tItem) rfl (by simp only [List.length_set]) hw) (List.Sublist.refl _)) rfl ?_
        refine h_one (i := 13) (ls := #[true, true, true, true, true, true, true, true, true, true, true, true, true, true]) (by kernel_rfl) rfl rfl ?_
        refine o_storeF (j := 3) (i := 0) (T := tItem) (idx := (idxF (fun x : DItem => (x.key == t.key)) h.things).toNat) (v := .int .i64 (Greedy.fresh h.floor (h.things[(idxF (fun x : DItem => (x.key == t.key)) h.things).toNat]))) (vs := [.int .i64 (Greedy.fresh h.floor (h.things[(idxF (fun x : DItem => (x.key == t.key)) h.things).toNat]))]) (z := (⟨(h.things[(idxF (fun x : DItem => (x.key == t.key)) h.things).toNat]).key, (h.things[(idxF (fun x : DItem => (x.key == t.key)) h.things).toNat]).size, (h.things[(idxF (fun x : DItem => (x.key == t.key)) h.things).toNat]).cost, (Greedy.fresh h.floor (h.things[(idxF (fun x : DItem => (x.key == t.key)) h.things).toNat]))⟩ : DItem)) rfl rfl rfl rfl (by first | assumption | omega | (simp only [List.length_set]; omega)) sz3 rfl rfl rfl rfl (Sub.refl _) ?_
        refine o_nil ?_
        refine h_next (fun _ hw => HeapIs.drop (HeapIs.toE (i := 0) (m := h.things.length) (T := tItem) rfl (by simp only [List.length_set]) hw) (List.Sublist.refl _)) ?_
        refine h_done (by kernel_rfl) ?_
        refine q_cast (F' := [(4, .pointer (some ⟨B3, 0, none⟩)), (9, .pointer (some ⟨B7, 0, none⟩))]) (H := [own tItem S8 a10 c11 (h.things.set ((idxF (fun x : DItem => (x.key == t.key)) h.things).toNat) (⟨(h.things[(idxF (fun x : DItem => (x.key == t.key)) h.things).toNat]).key, (h.things[(idxF (fun x : DItem => (x.key == t.key)) h.things).toNat]).size, (h.things[(idxF (fun x : DItem => (x.key == t.key)) h.things).toNat]).cost, (Greedy.fresh h.floor (h.things[(idxF (fun x : DItem => (x.key == t.key)) h.things).toNat]))⟩ : DItem)), box B7 [.int .i64 h.room, .int .i64 h.floor, .slice a10 h.things.length c11] 39, box B3 [.int .i64 0, .int .i64 0, .slice none 0 0] 39, box B2 [.int .i64 t.key, .int .i64 t.size, .int .i64 t.cost, .int .i64 t.worth] 41, box B1 [.int .i64 h.room, .int .i64 h.floor, .slice ah_0 h.things.length ch_0] 39, base w0]) (H' := [own tItem S8 a10 c11 (h.things.set ((idxF (fun x : DItem => (x.key == t.key)) h.things).toNat) (⟨(h.things[(idxF (fun x : DItem => (x.key == t.key)) h.things).toNat]).key, (h.things[(idxF (fun x : DItem => (x.key == t.key)) h.things).toNat]).size, (h.things[(idxF (fun x : DItem => (x.key == t.key)) h.things).toNat]).cost, (Greedy.fresh h.floor (h.things[(idxF (fun x : DItem => (x.key == t.key)) h.things).toNat]))⟩ : DItem)), box B7 [.int .i64 h.room, .int .i64 h.floor, .slice a10 (h.things.set ((idxF (fun x : DItem => (x.key == t.key)) h.things).toNat) (⟨(h.things[(idxF (fun x : DItem => (x.key == t.key)) h.things).toNat]).key, (h.things[(idxF (fun x : DItem => (x.key == t.key)) h.things).toNat]).size, (h.things[(idxF (fun x : DItem => (x.key == t.key)) h.things).toNat]).cost, (Greedy.fresh h.floor (h.things[(idxF (fun x : DItem => (x.key == t.key)) h.things).toNat]))⟩ : DItem)).length c11] 39, box B3 [.int .i64 0, .int .i64 0, .slice none 0 0] 39, box B2 [.int .i64 t.key, .int .i64 t.size, .int .i64 t.cost, .int .i64 t.worth] 41, box B1 [.int .i64 h.room, .int .i64 h.floor, .slice ah_0 h.things.length ch_0] 39, base w0]) (Sub.cons rfl (Sub.cons rfl (Sub.nil _))) (by simp only [List.length_set]) ?_
        refine q_then ?_
        refine c_seq ?_
        refine c_region ?_
        refine o_pure (p_load_agg (i := 1) (vs := [.int .i64 h.room, .int .i64 h.floor, .slice a10 (h.things.set ((idxF (fun x : DItem => (x.key == t.key)) h.things).toNat) (⟨(h.things[(idxF (fun x : DItem => (x.key == t.key)) h.things).toNat]).key, (h.things[(idxF (fun x : DItem => (x.key == t.key)) h.things).toNat]).size, (h.things[(idxF (fun x : DItem => (x.key == t.key)) h.things).toNat]).cost, (Greedy.fresh h.floor (h.things[(idxF (fun x : DItem => (x.key == t.key)) h.things).toNat]))⟩ : DItem)).length c11]) rfl rfl sh39 rfl rfl) rfl rfl rfl ?_
        refine o_storeN (i := 2) (vs := [.int .i64 h.room, .int .i64 h.floor, .slice a10 (h.things.set ((idxF (fun x : DItem => (x.key == t.key)) h.things).toNat) (⟨(h.things[(idxF (fun x : DItem => (x.key == t.key)) h.things).toNat]).key, (h.things[(idxF (fun x : DItem => (x.key == t.key)) h.things).toNat]).size, (h.things[(idxF (fun x : DItem => (x.key == t.key)) h.things).toNat]).cost, (Greedy.fresh h.floor (h.things[(idxF (fun x : DItem => (x.key == t.key)) h.things).toNat]))⟩ : DItem)).length c11]) (cs' := [.int .i64 h.room, .int .i64 h.floor, .slice a10 (h.things.set ((idxF (fun x : DItem => (x.key == t.key)) h.things).toNat) (⟨(h.things[(idxF (fun x : DItem => (x.key == t.key)) h.things).toNat]).key, (h.things[(idxF (fun x : DItem => (x.key == t.key)) h.things).toNat]).size, (h.things[(idxF (fun x : DItem => (x.key == t.key)) h.things).toNat]).cost, (Greedy.fresh h.floor (h.things[(idxF (fun x : DItem => (x.key == t.key)) h.things).toNat]))⟩ : DItem)).length c11]) rfl rfl rfl sz39 rfl rfl rfl rfl ?_
        refine o_pure (p_assign (v := .bool true) rfl) rfl rfl rfl ?_
        refine o_pure (p_assign (v := .slice none 0 0) rfl) rfl rfl rfl ?_
        refine o_pure (p_assign (v := .int .i64 0) rfl) rfl rfl rfl ?_
        refine o_nil ?_
        refine q_then ?_
        refine c_ret ?_
        refine q_then_ret ?_
        obtain ⟨ha, hae⟩ : _ ∧ _ := by
          first | exact Greedy.acc1 (h := h) (t := t) (by assumption) | exact Greedy.acc2 (h := h) (t := t) (by assumption) | exact Greedy.acc_hit (h := h) (t := t) (by assumption) hrt (by assumption) (by omega) | exact Greedy.acc_big (h := h) (t := t) (by assumption) hrt (by assumption) (by assumption) | exact Greedy.acc_new (h := h) (t := t) (by assumption) hrt hI (by assumption)
        have hr0 : (h.room : Int) = ((Greedy.access h t).1).room := by
          first | (rw [ha]; rfl) | exact hae.symm | (simp only [ha, hae]; done)
        have hr1 : (h.floor : Int) = ((Greedy.access h t).1).floor := by
          first | (rw [ha]; rfl) | exact hae.symm | (simp only [ha, hae]; done)
        have hr2 : ((h.things.set ((idxF (fun x : DItem => (x.key == t.key)) h.things).toNat) (⟨(h.things[(idxF (fun x : DItem => (x.key == t.key)) h.things).toNat]).key, (h.things[(idxF (fun x : DItem => (x.key == t.key)) h.things).toNat]).size, (h.things[(idxF (fun x : DItem => (x.key == t.key)) h.things).toNat]).cost, (Greedy.fresh h.floor (h.things[(idxF (fun x : DItem => (x.key == t.key)) h.things).toNat]))⟩ : DItem)) : List DItem) = ((Greedy.access h t).1).things := by
          first | (rw [ha]; rfl) | exact hae.symm | (simp only [ha, hae]; done)
        have hr3 : (true : Bool) = ((Greedy.access h t).2.1) := by
          first | (rw [ha]; rfl) | exact hae.symm | (simp only [ha, hae]; done)
        have hr4 : ([] : List Int) = ((Greedy.access h t).2.2) := by
          first | (rw [ha]; rfl) | exact hae.symm | (simp only [ha, hae]; done)
        have hr5 : (0 : Int) = (Greedy.accessErr h t) := by
          first | (rw [ha]; rfl) | exact hae.symm | (simp only [ha, hae]; done)
        refine q_endM (p := (a10, c11, none, 0)) (fun b => S8 b) (rt4 rfl (r_cell (i := 2) rfl rfl sh39 rfl) (r_tmp rfl) (r_tmp rfl) (r_tmp rfl)) (i := 5) rfl ?_ ?_ ?_
        · exact (by have hcc := congr (congr (congr (congr (congr (congrArg (fun (y0 : Int) (y1 : Int) (y2 : List DItem) (y3 : Bool) (y4 : List Int) (y5 : Int) => (.tuple #[.agg #[.int .i64 y0, .int .i64 y1, .slice a10 y2.length c11], .bool y3, .slice none y4.length 0, .int .i64 y5] : Value)) hr0) hr1) hr2) hr3) hr4) hr5; exact hcc)
        · intro w hw b hb; rcases hb with hb
          · exact hw.above (i := 5) (j := 0) (by decide) rfl rfl b hb
        · intro w hw; exact ⟨Eq.mp (congrArg (fun y => SlR tItem _ w a10 c11 y) hr2) (SlR.mono (fun b hb => by simp [hb]) (SlO.toR (hw.at (i := 0) rfl).here)), Eq.mp (congrArg (fun y => SlR tInt _ w none 0 y) hr4) (SlR.nil tInt _ w)⟩
      · simp only [decide_eq_false_iff_not, Int.not_le] at hc13
        refine c_skip ?_
        refine q_then ?_
        refine c_seq ?_
        refine c_seq ?_
        refine c_region ?_
        refine o_pure (p_fieldAddr (B := B2) (j := 0) (j' := 1) rfl fo41_1 rfl) rfl rfl rfl ?_
        refine o_pure (p_load (i := 3) (v := .int .i64 t.size) rfl rfl sh3 rfl) rfl rfl rfl ?_
        refine o_pure (p_fieldAddr (B := B7) (j := 0) (j' := 0) rfl fo39_0 rfl) rfl rfl rfl ?_
        refine o_pure (p_load (i := 1) (v := .int .i64 h.room) rfl rfl sh3 rfl) rfl rfl rfl ?_
        refine o_pure (p_gt (p := t.size) (q := h.room) rfl rfl) rfl rfl rfl ?_
        refine o_nil ?_
        refine q_then ?_
        refine c_cond (b := decide (h.room < t.size)) rfl (fun hc15 => ?_) (fun hc15 => ?_)
        · simp only [decide_eq_true_eq] at hc15
          refine c_seq ?_
          refine c_region ?_
          refine o_pure (p_load_agg (i := 1) (vs := [.int .i64 h.room, .int .i64 h.floor, .slice a10 h.things.length c11]) rfl rfl sh39 rfl rfl) rfl rfl rfl ?_
          refine o_storeN (i := 2) (vs := [.int .i64 h.room, .int .i64 h.floor, .slice a10 h.things.length c11]) (cs' := [.int .i64 h.room, .int .i64 h.floor, .slice a10 h.things.length c11]) rfl rfl rfl sz39 rfl rfl rfl rfl ?_
          refine o_pure (p_assign (v := .bool false) rfl) rfl rfl rfl ?_
          refine o_pure (p_assign (v := .slice none 0 0) rfl) rfl rfl rfl ?_
          refine o_pure (p_assign (v := .int .i64 0) rfl) rfl rfl rfl ?_
          refine o_nil ?_
          refine q_then ?_
          refine c_ret ?_
          refine q_then_ret ?_
          obtain ⟨ha, hae⟩ : _ ∧ _ := by
            first | exact Greedy.acc1 (h := h) (t := t) (by assumption) | exact Greedy.acc2 (h := h) (t := t) (by assumption) | exact Greedy.acc_hit (h := h) (t := t) (by assumption) hrt (by assumption) (by omega) | exact Greedy.acc_big (h := h) (t := t) (by assumption) hrt (by assumption) (by assumption) | exact Greedy.acc_new (h := h) (t := t) (by assumption) hrt hI (by assumption)
          have hr0 : (h.room : Int) = ((Greedy.access h t).1).room := by
            first | (rw [ha]; rfl) | exact hae.symm | (simp only [ha, hae]; done)
          have hr1 : (h.floor : Int) = ((Greedy.access h t).1).floor := by
            first | (rw [ha]; rfl) | exact hae.symm | (simp only [ha, hae]; done)
          have hr2 : (h.things : List DItem) = ((Greedy.access h t).1).things := by
            first | (rw [ha]; rfl) | exact hae.symm | (simp only [ha, hae]; done)
          have hr3 : (false : Bool) = ((Greedy.access h t).2.1) := by
            first | (rw [ha]; rfl) | exact hae.symm | (simp only [ha, hae]; done)
          have hr4 : ([] : List Int) = ((Greedy.access h t).2.2) := by
            first | (rw [ha]; rfl) | exact hae.symm | (simp only [ha, hae]; done)
          have hr5 : (0 : Int) = (Greedy.accessErr h t) := by
            first | (rw [ha]; rfl) | exact hae.symm | (simp only [ha, hae]; done)
          refine q_endM (p := (a10, c11, none, 0)) (fun b => S8 b) (rt4 rfl (r_cell (i := 2) rfl rfl sh39 rfl) (r_tmp rfl) (r_tmp rfl) (r_tmp rfl)) (i := 5) rfl ?_ ?_ ?_
          · exact (by have hcc := congr (congr (congr (congr (congr (congrArg (fun (y0 : Int) (y1 : Int) (y2 : List DItem) (y3 : Bool) (y4 : List Int) (y5 : Int) => (.tuple #[.agg #[.int .i64 y0, .int .i64 y1, .slice a10 y2.length c11], .bool y3, .slice none y4.length 0, .int .i64 y5] : Value)) hr0) hr1) hr2) hr3) hr4) hr5; exact hcc)
          · intro w hw b hb; rcases hb with hb
            · exact hw.above (i := 5) (j := 0) (by decide) rfl rfl b hb
          · intro w hw; exact ⟨Eq.mp (congrArg (fun y => SlR tItem _ w a10 c11 y) hr2) (SlR.mono (fun b hb => by simp [hb]) (SlO.toR (hw.at (i := 0) rfl).here)), Eq.mp (congrArg (fun y => SlR tInt _ w none 0 y) hr4) (SlR.nil tInt _ w)⟩
        · simp only [decide_eq_false_iff_not, Int.not_lt] at hc15
          refine c_skip ?_
          refine q_then ?_
          refine c_seq ?_
          refine c_region ?_
          refine o_pure (p_assign (v := .slice none 0 0) rfl) rfl rfl rfl ?_
          refine o_nil ?_
          refine q_then ?_
          refine c_seq ?_
          refine c_region ?_
          refine o_pure (p_fieldAddr (B := B7) (j := 0) (j' := 2) rfl fo39_2 rfl) rfl rfl rfl ?_
          refine o_pure (p_load (i := 1) (v := .slice a10 h.things.length c11) rfl rfl sh37 rfl) rfl rfl rfl ?_
          refine o_call0 (v := .tuple #[.int .i64 (Greedy.sizes h.things), .int .i64 (Greedy.costs h.things)]) rfl (sums_ok h.things a10 c11 (by first | assumption | exact hok.fine | exact hy1.fine | exact (hI.fits).fine | exact Greedy.Fine.of_done hdone (by omega))) hf75 (fun w hw => (rd_own (i := 0) rfl) w hw) rfl ?_
          refine o_pure (p_move (v := .tuple #[.int .i64 (Greedy.sizes h.things), .int .i64 (Greedy.costs h.things)]) rfl) rfl rfl rfl ?_
          refine o_pure (p_extract (vs := [.int .i64 (Greedy.sizes h.things), .int .i64 (Greedy.costs h.things)]) (v := .int .i64 (Greedy.sizes h.things)) rfl rfl) rfl rfl rfl ?_
          refine o_pure (p_extract (vs := [.int .i64 (Greedy.sizes h.things), .int .i64 (Greedy.costs h.things)]) (v := .int .i64 (Greedy.costs h.things)) rfl rfl) rfl rfl rfl ?_
          refine o_pure (p_assign (v := .int .i64 (Greedy.sizes h.things)) rfl) rfl rfl rfl ?_
          refine o_pure (p_assign (v := .int .i64 (Greedy.costs h.things)) rfl) rfl rfl rfl ?_
          refine o_nil ?_
          refine q_then ?_
          refine c_seq ?_
          refine c_block ?_
          refine c_ownNil tInt ?_
          refine c_loop (St := List Int × Option Addr × Nat × (Nat → Prop) × Int × DGreedy × Option Addr × Nat × (Nat → Prop))
            (fun ⟨gone, agone, cgone, Sgone, sizes, cc, acc_0, ccc_0, Scc_0⟩ => [(3, .pointer (some ⟨B2, 0, none⟩)), (4, .pointer (some ⟨B3, 0, none⟩)), (9, .pointer (some ⟨B7, 0, none⟩)), (11, .slice agone gone.length cgone), (12, .int .i64 sizes)])
            (fun ⟨gone, agone, cgone, Sgone, sizes, cc, acc_0, ccc_0, Scc_0⟩ => [own tInt Sgone agone cgone gone, own tItem Scc_0 acc_0 ccc_0 cc.things, box B7 [.int .i64 cc.room, .int .i64 cc.floor, .slice acc_0 cc.things.length ccc_0] 39, box B3 [.int .i64 0, .int .i64 0, .slice none 0 0] 39, box B2 [.int .i64 t.key, .int .i64 t.size, .int .i64 t.cost, .int .i64 t.worth] 41, box B1 [.int .i64 h.room, .int .i64 h.floor, .slice ah_0 h.things.length ch_0] 39, base w0])
            (fun ⟨gone, agone, cgone, Sgone, sizes, cc, acc_0, ccc_0, Scc_0⟩ => Greedy.AInv h t cc gone sizes)
            (fun ⟨gone, agone, cgone, Sgone, sizes, cc, acc_0, ccc_0, Scc_0⟩ => cc.things.length)
            ([], none, 0, (fun _ => False), (Greedy.sizes h.things), h, a10, c11, S8) ?_ (Sub.cons rfl (Sub.cons rfl (Sub.cons rfl (Sub.cons rfl (Sub.cons rfl (Sub.nil _)))))) (fun _ hw => hw) ?_
          · exact Greedy.AInv.start (by assumption) (by assumption) (by assumption) (by assumption)
          rintro ⟨gone, agone, cgone, Sgone, sizes, cc, acc_0, ccc_0, Scc_0⟩ hI K hK17
          have hbd := hI.bd
          have hgl := hI.len
          show SC _ _ Try.prog 119 w0 _ _ [(3, .pointer (some ⟨B2, 0, none⟩)), (4, .pointer (some ⟨B3, 0, none⟩)), (9, .pointer (some ⟨B7, 0, none⟩)), (11, .slice agone gone.length cgone), (12, .int .i64 sizes)] [own tInt Sgone agone cgone gone, own tItem Scc_0 acc_0 ccc_0 cc.things, box B7 [.int .i64 cc.room, .int .i64 cc.floor, .slice acc_0 cc.things.length ccc_0] 39, box B3 [.int .i64 0, .int .i64 0, .slice none 0 0] 39, box B2 [.int .i64 t.key, .int .i64 t.size, .int .i64 t.cost, .int .i64 t.worth] 41, box B1 [.int .i64 h.room, .int .i64 h.floor, .slice ah_0 h.things.length ch_0] 39, base w0]
          refine c_seq ?_
          refine c_seq ?_
          refine c_region ?_
          refine o_pure (p_move (v := .int .i64 sizes) rfl) rfl rfl rfl ?_
          refine o_pure (p_fieldAddr (B := B2) (j := 0) (j' := 1) rfl fo41_1 rfl) rfl rfl rfl ?_
          refine o_pure (p_load (i := 4) (v := .int .i64 t.size) rfl rfl sh3 rfl) rfl rfl rfl ?_
          refine o_pure (p_addb (p := sizes) (q := t.size) rfl rfl (by omega)) rfl rfl rfl ?_
          refine o_pure (p_fieldAddr (B := B7) (j := 0) (j' := 0) rfl fo39_0 rfl) rfl rfl rfl ?_
          refine o_pure (p_load (i := 2) (v := .int .i64 cc.room) rfl rfl sh3 rfl) rfl rfl rfl ?_
          refine o_pure (p_gt (p := (sizes + t.size)) (q := cc.room) rfl rfl) rfl rfl rfl ?_
          refine o_pure (p_move (v := .bool (decide (cc.room < (sizes + t.size)))) rfl) rfl rfl rfl ?_
          refine o_or (p := 78) 5 ((cc.things.length : Int) == 40) ?_ ?_ ?_
          · intro hb18 hk
            simp only [decide_eq_false_iff_not, Int.not_lt] at hb18
            refine o_unguard 73 rfl rfl ?_
            refine o_pure (p_fieldAddr (B := B7) (j := 0) (j' := 2) rfl fo39_2 rfl) rfl rfl rfl ?_
            refine o_unguard 73 rfl rfl ?_
            refine o_pure (p_load (i := 2) (v := .slice acc_0 cc.things.length ccc_0) rfl rfl sh37 rfl) rfl rfl rfl ?_
            refine o_unguard 73 rfl rfl ?_
            refine o_pure (p_len_slice (len := cc.things.length) rfl rfl Try.underlying37) rfl rfl rfl ?_
            refine o_unguard 73 rfl rfl ?_
            refine o_pure (p_eq (p := (cc.things.length : Int)) (q := 40) rfl rfl) rfl rfl rfl ?_
            refine o_pure (p_pick_false (v := .bool ((cc.things.length : Int) == 40)) rfl rfl) rfl rfl rfl ?_
            exact o_sub (Sub.cons rfl (Sub.skip rfl (Sub.skip rfl (Sub.skip rfl (Sub.skip rfl (Sub.skip rfl (Sub.skip rfl (Sub.refl _)))))))) hk
          · intro hb18 hk
            refine o_guard_no rfl 73 rfl rfl rfl rfl rfl ?_
            refine o_guard_no rfl 73 rfl rfl rfl rfl rfl ?_
            refine o_guard_no rfl 73 rfl rfl rfl rfl rfl ?_
            refine o_guard_no rfl 73 rfl rfl rfl rfl rfl ?_
            refine o_pure (p_pick_true (u := .bool true) rfl rfl) rfl rfl rfl ?_
            exact o_sub (Sub.cons rfl (Sub.skip rfl (Sub.skip rfl (Sub.skip rfl (Sub.skip rfl (Sub.skip rfl (Sub.skip rfl (Sub.refl _)))))))) hk
          refine o_nil ?_
          refine q_then ?_
          refine c_cond (b := (decide (cc.room < (sizes + t.size)) || ((cc.things.length : Int) == 40))) rfl (fun hc19 => ?_) (fun hc19 => ?_)
          · simp only [Bool.or_eq_true, decide_eq_true_eq, beq_iff_eq] at hc19
            have hcc : h.room < sizes + t.size ∨ (cc.things.length : Int) = 40 := by rw [← hI.room]; exact hc19
            have hll := Greedy.least_lt (hI.pos hcc)
            have hit := Greedy.right_ok (hI.fits.right _ (List.getElem_mem hll))
            refine c_skip ?_
            refine q_then ?_
            refine c_block ?_
            refine c_seq ?_
            refine c_region ?_
            refine o_pure (p_fieldAddr (B := B7) (j := 0) (j' := 2) rfl fo39_2 rfl) rfl rfl rfl ?_
            refine o_pure (p_load (i := 2) (v := .slice acc_0 cc.things.length ccc_0) rfl rfl sh37 rfl) rfl rfl rfl ?_
            refine o_call0 (v := .int .i64 (Greedy.least cc.things : Int)) rfl (least_ok cc.things acc_0 ccc_0) hf76 (fun w hw => (rd_own (i := 1) rfl) w hw) rfl ?_
            refine o_pure (p_assign (v := .int .i64 (Greedy.least cc.things : Int)) rfl) rfl rfl rfl ?_
            refine o_nil ?_
            refine q_then ?_
            refine c_seq ?_
            refine c_region ?_
            refine o_pure (p_fieldAddr (B := B7) (j := 0) (j' := 2) rfl fo39_2 rfl) rfl rfl rfl ?_
            refine o_pure (p_load (i := 2) (v := .slice acc_0 cc.things.length ccc_0) rfl rfl sh37 rfl) rfl rfl rfl ?_
            refine o_pure (p_move (v := .int .i64 (Greedy.least cc.things : Int)) rfl) rfl rfl rfl ?_
            refine o_pure (p_indexAddr (L := cc.things) (T := tItem) (i := (Greedy.least cc.things : Int)) rfl rfl (rd_own (i := 1) rfl) Try.underlying37 sz41 (by omega) (by omega)) rfl rfl rfl ?_
            refine o_pure (p_loadEn (i := Greedy.least cc.things) (T := tItem) (L := cc.things) (vs := [.int .i64 ((cc.things[Greedy.least cc.things]).key), .int .i64 ((cc.things[Greedy.least cc.things]).size), .int .i64 ((cc.things[Greedy.least cc.things]).cost), .int .i64 ((cc.things[Greedy.least cc.things]).worth)]) rfl (rd_own (i := 1) rfl) (by first | assumption | omega) sh41 rfl) rfl rfl rfl ?_
            refine o_alloc ze41 rfl (fun B20 => ?_)
            refine o_storeN (i := 0) (vs := [.int .i64 ((cc.things[Greedy.least cc.things]).key), .int .i64 ((cc.things[Greedy.least cc.things]).size), .int .i64 ((cc.things[Greedy.least cc.things]).cost), .int .i64 ((cc.things[Greedy.least cc.things]).worth)]) (cs' := [.int .i64 ((cc.things[Greedy.least cc.things]).key), .int .i64 ((cc.things[Greedy.least cc.things]).size), .int .i64 ((cc.things[Greedy.least cc.things]).cost), .int .i64 ((cc.things[Greedy.least cc.things]).worth)]) rfl rfl rfl sz41 rfl rfl rfl rfl ?_
            refine o_nil ?_
            refine q_then ?_
            refine c_seq ?_
            refine c_held hmix [box B20 [.int .i64 ((cc.things[Greedy.least cc.things]).key), .int .i64 ((cc.things[Greedy.least cc.things]).size), .int .i64 ((cc.things[Greedy.least cc.things]).cost), .int .i64 ((cc.things[Greedy.least cc.things]).worth)] 41, own tItem Scc_0 acc_0 ccc_0 cc.things, box B3 [.int .i64 0, .int .i64 0, .slice none 0 0] 39, box B2 [.int .i64 t.key, .int .i64 t.size, .int .i64 t.cost, .int .i64 t.worth] 41, box B1 [.int .i64 h.room, .int .i64 h.floor, .slice ah_0 h.things.length ch_0] 39, base w0] rfl rfl ?_
            refine h_take (i := 0) (ls := #[true, false, false, false, false, false, false, false, false, false, false, false, false, false, false]) rfl (by kernel_rfl) (by kernel_rfl) (by kernel_rfl) (fun _ _ _ h => h) (p_move (v := .slice agone gone.length cgone) rfl) rfl rfl rfl (fun _ hw => HeapIs.drop hw (List.Sublist.cons_cons _ (List.Sublist.cons _ (List.Sublist.cons_cons _ (List.Sublist.cons _ (List.Sublist.cons_cons _ (List.Sublist.cons_cons _ (List.Sublist.cons_cons _ (List.Sublist.cons_cons _ (List.Sublist.slnil)))))))))) rfl ?_
            refine h_take (i := 1) (ls := #[true, true, false, false, false, false, false, false, false, false, false, false, false, false, false]) rfl (by kernel_rfl) (by kernel_rfl) (by kernel_rfl) (fun _ _ _ h => h) (p_fieldAddr (B := B20) (j := 0) (j' := 0) rfl fo41_0 rfl) rfl rfl rfl (fun _ hw => HeapIs.drop hw (List.Sublist.cons_cons _ (List.Sublist.cons _ (List.Sublist.cons_cons _ (List.Sublist.cons _ (List.Sublist.cons_cons _ (List.Sublist.cons_cons _ (List.Sublist.cons_cons _ (List.Sublist.cons_cons _ (List.Sublist.slnil)))))))))) rfl ?_
            refine h_take (i := 2) (ls := #[true, true, true, false, false, false, false, false, false, false, false, false, false, false, false]) rfl (by kernel_rfl) (by kernel_rfl) (by kernel_rfl) (fun _ _ _ h => h) (p_load (i := 0) (v := .int .i64 ((cc.things[Greedy.least cc.things]).key)) rfl rfl sh3 rfl) rfl rfl rfl (fun _ hw => HeapIs.drop hw (List.Sublist.cons_cons _ (List.Sublist.cons _ (List.Sublist.cons_cons _ (List.Sublist.cons _ (List.Sublist.cons_cons _ (List.Sublist.cons_cons _ (List.Sublist.cons_cons _ (List.Sublist.cons_cons _ (List.Sublist.slnil)))))))))) rfl ?_
            refine h_take (i := 5) (ls := #[true, true, true, false, false, true, false, false, false, false, false, false, false, false, false]) rfl (by kernel_rfl) (by kernel_rfl) (by kernel_rfl) (fun _ _ _ h => h) (p_fieldAddr (B := B20) (j := 0) (j' := 3) rfl fo41_3 rfl) rfl rfl rfl (fun _ hw => HeapIs.drop hw (List.Sublist.cons_cons _ (List.Sublist.cons _ (List.Sublist.cons_cons _ (List.Sublist.cons _ (List.Sublist.cons_cons _ (List.Sublist.cons_cons _ (List.Sublist.cons_cons _ (List.Sublist.cons_cons _ (List.Sublist.slnil)))))))))) rfl ?_
            refine h_take (i := 6) (ls := #[true, true, true, false, false, true, true, false, false, false, false, false, false, false, false]) rfl (by kernel_rfl) (by kernel_rfl) (by kernel_rfl) (fun _ _ _ h => h) (p_load (i := 0) (v := .int .i64 ((cc.things[Greedy.least cc.things]).worth)) rfl rfl sh3 rfl) rfl rfl rfl (fun _ hw => HeapIs.drop hw (List.Sublist.cons_cons _ (List.Sublist.cons _ (List.Sublist.cons_cons _ (List.Sublist.cons _ (List.Sublist.cons_cons _ (List.Sublist.cons_cons _ (List.Sublist.cons_cons _ (List.Sublist.cons_cons _ (List.Sublist.slnil)))))))))) rfl ?_
            refine h_take (i := 7) (ls := #[true, true, true, false, false, true, true, true, false, false, false, false, false, false, false]) rfl (by kernel_rfl) (by kernel_rfl) (by kernel_rfl) (fun _ _ _ h => h) (p_move (v := .int .i64 sizes) rfl) rfl rfl rfl (fun _ hw => HeapIs.drop hw (List.Sublist.cons_cons _ (List.Sublist.cons _ (List.Sublist.cons_cons _ (List.Sublist.cons _ (List.Sublist.cons_cons _ (List.Sublist.cons_cons _ (List.Sublist.cons_cons _ (List.Sublist.cons_cons _ (List.Sublist.slnil)))))))))) rfl ?_
            refine h_take (i := 8) (ls := #[true, true, true, false, false, true, true, true, true, false, false, false, false, false, false]) rfl (by kernel_rfl) (by kernel_rfl) (by kernel_rfl) (fun _ _ _ h => h) (p_fieldAddr (B := B20) (j := 0) (j' := 1) rfl fo41_1 rfl) rfl rfl rfl (fun _ hw => HeapIs.drop hw (List.Sublist.cons_cons _ (List.Sublist.cons _ (List.Sublist.cons_cons _ (List.Sublist.cons _ (List.Sublist.cons_cons _ (List.Sublist.cons_cons _ (List.Sublist.cons_cons _ (List.Sublist.cons_cons _ (List.Sublist.slnil)))))))))) rfl ?_
            refine h_take (i := 9) (ls := #[true, true, true, false, false, true, true, true, true, true, false, false, false, false, false]) rfl (by kernel_rfl) (by kernel_rfl) (by kernel_rfl) (fun _ _ _ h => h) (p_load (i := 0) (v := .int .i64 ((cc.things[Greedy.least cc.things]).size)) rfl rfl sh3 rfl) rfl rfl rfl (fun _ hw => HeapIs.drop hw (List.Sublist.cons_cons _ (List.Sublist.cons _ (List.Sublist.cons_cons _ (List.Sublist.cons _ (List.Sublist.cons_cons _ (List.Sublist.cons_cons _ (List.Sublist.cons_cons _ (List.Sublist.cons_cons _ (List.Sublist.slnil)))))))))) rfl ?_
            refine h_take (i := 10) (ls := #[true, true, true, false, false, true, true, true, true, true, true, false, false, false, false]) rfl (by kernel_rfl) (by kernel_rfl) (by kernel_rfl) (fun _ _ _ h => h) (p_subb (p := sizes) (q := (cc.things[Greedy.least cc.things]).size) rfl rfl (by omega)) rfl rfl rfl (fun _ hw => HeapIs.drop hw (List.Sublist.cons_cons _ (List.Sublist.cons _ (List.Sublist.cons_cons _ (List.Sublist.cons _ (List.Sublist.cons_cons _ (List.Sublist.cons_cons _ (List.Sublist.cons_cons _ (List.Sublist.cons_cons _ (List.Sublist.slnil)))))))))) rfl ?_
            refine h_one (i := 3) (ls := #[true, true, true, true, false, true, true, true, true, true, true, false, false, false, false]) (by kernel_rfl) rfl rfl ?_
            refine o_buildSlice (m := 1) (T := tInt) (L := [(cc.things[Greedy.least cc.things]).key]) (vs := [.int .i64 ((cc.things[Greedy.least cc.things]).key)]) rfl rfl rfl rfl Try.underlying22 sz3 (by decide) ze3 rfl (by decide) rfl (fun S21_3 a21_3 => ?_)
            refine o_nil ?_
            refine h_next (fun _ hw => HeapIs.drop hw (List.Sublist.cons _ (List.Sublist.cons_cons _ (List.Sublist.cons _ (List.Sublist.cons_cons _ (List.Sublist.cons _ (List.Sublist.cons_cons _ (List.Sublist.cons_cons _ (List.Sublist.cons_cons _ (List.Sublist.cons_cons _ (List.Sublist.slnil))))))))))) ?_
            refine h_one (i := 4) (ls := #[true, true, true, true, true, true, true, true, true, true, true, false, false, false, false]) (by kernel_rfl) rfl rfl ?_
            refine o_append (i := 2) (L := gone) (M := [(cc.things[Greedy.least cc.things]).key]) (T := tInt) rfl rfl rfl (rd_own (i := 0) rfl) Try.underlying22 Try.underlying22 (by intro k h; cases h) el3 (by intro z; simp [tInt, one1]) (by decide) (by first | omega | (simp only [List.length_cons, List.length_nil]; omega) | (simp only [List.length_append, List.length_cons, List.length_nil, List.length_take, List.length_drop]; omega)) rfl (fun a21_4 c21_4 S21_4 => ?_)
            refine o_nil ?_
            refine h_next (fun _ hw => HeapIs.drop hw (List.Sublist.cons _ (List.Sublist.cons_cons _ (List.Sublist.cons _ (List.Sublist.cons_cons _ (List.Sublist.cons _ (List.Sublist.cons_cons _ (List.Sublist.cons_cons _ (List.Sublist.cons_cons _ (List.Sublist.cons_cons _ (List.Sublist.slnil))))))))))) ?_
            refine h_take (i := 11) (ls := #[true, true, true, true, true, true, true, true, true, true, true, true, false, false, false]) rfl (by kernel_rfl) (by kernel_rfl) (by kernel_rfl) (fun _ _ _ h => h) (p_assign (v := .slice a21_4 (gone ++ [(cc.things[Greedy.least cc.things]).key]).length c21_4) rfl) rfl rfl rfl (fun _ hw => HeapIs.drop hw (List.Sublist.cons _ (List.Sublist.cons_cons _ (List.Sublist.cons _ (List.Sublist.cons_cons _ (List.Sublist.cons _ (List.Sublist.cons_cons _ (List.Sublist.cons_cons _ (List.Sublist.cons_cons _ (List.Sublist.cons_cons _ (List.Sublist.slnil))))))))))) rfl ?_
            refine h_take (i := 12) (ls := #[true, true, true, true, true, true, true, true, true, true, true, true, true, false, false]) rfl (by kernel_rfl) (by kernel_rfl) (by kernel_rfl) (fun _ _ _ h => h) (p_fieldAddr (B := B7) (j := 0) (j' := 1) rfl fo39_1 rfl) rfl rfl rfl (fun _ hw => HeapIs.drop hw (List.Sublist.cons _ (List.Sublist.cons_cons _ (List.Sublist.cons _ (List.Sublist.cons_cons _ (List.Sublist.cons _ (List.Sublist.cons_cons _ (List.Sublist.cons_cons _ (List.Sublist.cons_cons _ (List.Sublist.cons_cons _ (List.Sublist.slnil))))))))))) rfl ?_
            refine h_one (i := 13) (ls := #[true, true, true, true, true, true, true, true, true, true, true, true, true, true, false]) (by kernel_rfl) rfl rfl ?_
            refine o_store (i := 4) (v := .int .i64 ((cc.things[Greedy.least cc.things]).worth)) (cs' := [.int .i64 cc.room, .int .i64 ((cc.things[Greedy.least cc.things]).worth), .slice acc_0 cc.things.length ccc_0]) rfl rfl rfl sz3 rfl rfl rfl ?_
            refine o_nil ?_
            refine h_next (fun _ hw => HeapIs.drop hw (List.Sublist.cons _ (List.Sublist.cons_cons _ (List.Sublist.cons _ (List.Sublist.cons_cons _ (List.Sublist.cons _ (List.Sublist.cons_cons _ (List.Sublist.cons_cons _ (List.Sublist.cons_cons _ (List.Sublist.cons_cons _ (List.Sublist.slnil))))))))))) ?_
            refine h_take (i := 14) (ls := #[true, true, true, true, true, true, true, true, true, true, true, true, true, true, true]) rfl (by kernel_rfl) (by kernel_rfl) (by kernel_rfl) (fun _ _ _ h => h) (p_assign (v := .int .i64 (sizes - (cc.things[Greedy.least cc.things]).size)) rfl) rfl rfl rfl (fun _ hw => HeapIs.drop hw (List.Sublist.cons _ (List.Sublist.cons_cons _ (List.Sublist.cons _ (List.Sublist.cons_cons _ (List.Sublist.cons _ (List.Sublist.cons_cons _ (List.Sublist.cons_cons _ (List.Sublist.cons_cons _ (List.Sublist.cons_cons _ (List.Sublist.slnil))))))))))) rfl ?_
            refine h_done (by kernel_rfl) ?_
            refine q_cast (F' := [(3, .pointer (some ⟨B2, 0, none⟩)), (4, .pointer (some ⟨B3, 0, none⟩)), (9, .pointer (some ⟨B7, 0, none⟩)), (11, .slice a21_4 (gone ++ [(cc.things[Greedy.least cc.things]).key]).length c21_4), (12, .int .i64 (sizes - (cc.things[Greedy.least cc.things]).size)), (14, .int .i64 (Greedy.least cc.things : Int))]) (H := [own tInt S21_3 a21_3 ([(cc.things[Greedy.least cc.things]).key].length) ([(cc.things[Greedy.least cc.things]).key]), box B20 [.int .i64 ((cc.things[Greedy.least cc.things]).key), .int .i64 ((cc.things[Greedy.least cc.things]).size), .int .i64 ((cc.things[Greedy.least cc.things]).cost), .int .i64 ((cc.things[Greedy.least cc.things]).worth)] 41, own tInt S21_4 a21_4 c21_4 (gone ++ [(cc.things[Greedy.least cc.things]).key]), own tItem Scc_0 acc_0 ccc_0 cc.things, box B7 [.int .i64 cc.room, .int .i64 ((cc.things[Greedy.least cc.things]).worth), .slice acc_0 cc.things.length ccc_0] 39, box B3 [.int .i64 0, .int .i64 0, .slice none 0 0] 39, box B2 [.int .i64 t.key, .int .i64 t.size, .int .i64 t.cost, .int .i64 t.worth] 41, box B1 [.int .i64 h.room, .int .i64 h.floor, .slice ah_0 h.things.length ch_0] 39, base w0]) (H' := [own tInt S21_3 a21_3 ([(cc.things[Greedy.least cc.things]).key].length) ([(cc.things[Greedy.least cc.things]).key]), box B20 [.int .i64 ((cc.things[Greedy.least cc.things]).key), .int .i64 ((cc.things[Greedy.least cc.things]).size), .int .i64 ((cc.things[Greedy.least cc.things]).cost), .int .i64 ((cc.things[Greedy.least cc.things]).worth)] 41, own tInt S21_4 a21_4 c21_4 (gone ++ [(cc.things[Greedy.least cc.things]).key]), own tItem Scc_0 acc_0 ccc_0 cc.things, box B7 [.int .i64 cc.room, .int .i64 ((cc.things[Greedy.least cc.things]).worth), .slice acc_0 cc.things.length ccc_0] 39, box B3 [.int .i64 0, .int .i64 0, .slice none 0 0] 39, box B2 [.int .i64 t.key, .int .i64 t.size, .int .i64 t.cost, .int .i64 t.worth] 41, box B1 [.int .i64 h.room, .int .i64 h.floor, .slice ah_0 h.things.length ch_0] 39, base w0]) (Sub.cons rfl (Sub.cons rfl (Sub.cons rfl (Sub.cons rfl (Sub.cons rfl (Sub.cons rfl (Sub.nil _))))))) (by rfl) ?_
            refine q_then ?_
            refine c_region ?_
            refine o_pure (p_fieldAddr (B := B7) (j := 0) (j' := 2) rfl fo39_2 rfl) rfl rfl rfl ?_
            refine o_pure (p_load (i := 4) (v := .slice acc_0 cc.things.length ccc_0) rfl rfl sh37 rfl) rfl rfl rfl ?_
            refine o_pure (p_move (v := .int .i64 (Greedy.least cc.things : Int)) rfl) rfl rfl rfl ?_
            refine o_pure (p_move (v := .int .i64 (Greedy.least cc.things : Int)) rfl) rfl rfl rfl ?_
            refine o_pure (p_addb (p := (Greedy.least cc.things : Int)) (q := 1) rfl rfl (by omega)) rfl rfl rfl ?_
            refine o_pick (H' := [own tItem Scc_0 acc_0 ccc_0 cc.things, own tInt S21_3 a21_3 ([(cc.things[Greedy.least cc.things]).key].length) ([(cc.things[Greedy.least cc.things]).key]), box B20 [.int .i64 ((cc.things[Greedy.least cc.things]).key), .int .i64 ((cc.things[Greedy.least cc.things]).size), .int .i64 ((cc.things[Greedy.least cc.things]).cost), .int .i64 ((cc.things[Greedy.least cc.things]).worth)] 41, own tInt S21_4 a21_4 c21_4 (gone ++ [(cc.things[Greedy.least cc.things]).key]), box B7 [.int .i64 cc.room, .int .i64 ((cc.things[Greedy.least cc.things]).worth), .slice acc_0 cc.things.length ccc_0] 39, box B3 [.int .i64 0, .int .i64 0, .slice none 0 0] 39, box B2 [.int .i64 t.key, .int .i64 t.size, .int .i64 t.cost, .int .i64 t.worth] 41, box B1 [.int .i64 h.room, .int .i64 h.floor, .slice ah_0 h.things.length ch_0] 39, base w0]) [3, 0, 1, 2, 4, 5, 6, 7, 8] (by decide) rfl ?_
            refine o_callX (pre := [own tItem Scc_0 acc_0 ccc_0 cc.things]) (R := [own tInt S21_3 a21_3 ([(cc.things[Greedy.least cc.things]).key].length) ([(cc.things[Greedy.least cc.things]).key]), box B20 [.int .i64 ((cc.things[Greedy.least cc.things]).key), .int .i64 ((cc.things[Greedy.least cc.things]).size), .int .i64 ((cc.things[Greedy.least cc.things]).cost), .int .i64 ((cc.things[Greedy.least cc.things]).worth)] 41, own tInt S21_4 a21_4 c21_4 (gone ++ [(cc.things[Greedy.least cc.things]).key]), box B7 [.int .i64 cc.room, .int .i64 ((cc.things[Greedy.least cc.things]).worth), .slice acc_0 cc.things.length ccc_0] 39, box B3 [.int .i64 0, .int .i64 0, .slice none 0 0] 39, box B2 [.int .i64 t.key, .int .i64 t.size, .int .i64 t.cost, .int .i64 t.worth] 41, box B1 [.int .i64 h.room, .int .i64 h.floor, .slice ah_0 h.things.length ch_0] 39, base w0]) rfl (delete_Item_ok cc.things acc_0 ccc_0 Scc_0 (Greedy.least cc.things : Int) ((Greedy.least cc.things : Int) + 1) (by omega)) hf77 rfl (fun _ _ => trivial) rfl ?_
            rintro ⟨a22, c23, S24⟩
            refine o_asH (H' := [own tItem S24 a22 c23 (cc.things.take (Greedy.least cc.things : Int).toNat ++ cc.things.drop ((Greedy.least cc.things : Int) + 1).toNat), own tInt S21_3 a21_3 ([(cc.things[Greedy.least cc.things]).key].length) ([(cc.things[Greedy.least cc.things]).key]), box B20 [.int .i64 ((cc.things[Greedy.least cc.things]).key), .int .i64 ((cc.things[Greedy.least cc.things]).size), .int .i64 ((cc.things[Greedy.least cc.things]).cost), .int .i64 ((cc.things[Greedy.least cc.things]).worth)] 41, own tInt S21_4 a21_4 c21_4 (gone ++ [(cc.things[Greedy.least cc.things]).key]), box B7 [.int .i64 cc.room, .int .i64 ((cc.things[Greedy.least cc.things]).worth), .slice acc_0 cc.things.length ccc_0] 39, box B3 [.int .i64 0, .int .i64 0, .slice none 0 0] 39, box B2 [.int .i64 t.key, .int .i64 t.size, .int .i64 t.cost, .int .i64 t.worth] 41, box B1 [.int .i64 h.room, .int .i64 h.floor, .slice ah_0 h.things.length ch_0] 39, base w0]) rfl ?_
            refine o_pure (p_fieldAddr (B := B7) (j := 0) (j' := 2) rfl fo39_2 rfl) rfl rfl rfl ?_
            refine o_store (i := 4) (v := .slice a22 (cc.things.take (Greedy.least cc.things : Int).toNat ++ cc.things.drop ((Greedy.least cc.things : Int) + 1).toNat).length c23) (cs' := [.int .i64 cc.room, .int .i64 ((cc.things[Greedy.least cc.things]).worth), .slice a22 (cc.things.take (Greedy.least cc.things : Int).toNat ++ cc.things.drop ((Greedy.least cc.things : Int) + 1).toNat).length c23]) rfl rfl rfl sz37 rfl rfl rfl ?_
            refine o_nil ?_
            refine q_block_normal ?_
            refine q_round hK17 ((gone ++ [(cc.things[Greedy.least cc.things]).key]), a21_4, c21_4, S21_4, (sizes - (cc.things[Greedy.least cc.things]).size), (⟨cc.room, (cc.things[Greedy.least cc.things]).worth, (cc.things.take (Greedy.least cc.things : Int).toNat ++ cc.things.drop ((Greedy.least cc.things : Int) + 1).toNat)⟩ : DGreedy), a22, c23, S24) ?_ ?_ ?_ ?_
            · clear hK17
              exact hI.next hcc hll
            · exact Greedy.AInv.less hll
            · exact Sub.cons rfl (Sub.cons rfl (Sub.cons rfl (Sub.cons rfl (Sub.cons rfl (Sub.nil _)))))
            · exact fun _ hw => HeapIs.pick hw [3, 0, 4, 5, 6, 7, 8] (by decide) rfl
          · simp only [Bool.or_eq_false_iff, decide_eq_false_iff_not, Int.not_lt, beq_eq_false_iff_ne, ne_eq] at hc19
            refine c_exit ?_
            refine q_then_exit (q_then_exit (q_block_exit (q_then ?_)))
            refine c_seq ?_
            refine c_region ?_
            refine o_pure (p_fieldAddr (B := B7) (j := 0) (j' := 1) rfl fo39_1 rfl) rfl rfl rfl ?_
            refine o_pure (p_load (i := 2) (v := .int .i64 cc.floor) rfl rfl sh3 rfl) rfl rfl rfl ?_
            refine o_pure (p_load_agg (i := 4) (vs := [.int .i64 t.key, .int .i64 t.size, .int .i64 t.cost, .int .i64 t.worth]) rfl rfl sh41 rfl rfl) rfl rfl rfl ?_
            refine o_call0 (v := .int .i64 (Greedy.fresh cc.floor t)) rfl (fresh_ok cc.floor t (by first | assumption | exact ⟨hok.floor, hok.right _ (List.getElem_mem _)⟩ | exact ⟨hI.fits.fl, hI.right⟩ | exact ⟨hy1.fits.fl, hy1.fits.right _ (List.getElem_mem _)⟩ | exact ⟨hy1.fits.fl, hy1.right⟩)) hf74 (fun _ _ => trivial) rfl ?_
            refine o_pure (p_fieldAddr (B := B2) (j := 0) (j' := 3) rfl fo41_3 rfl) rfl rfl rfl ?_
            refine o_store (i := 4) (v := .int .i64 (Greedy.fresh cc.floor t)) (cs' := [.int .i64 t.key, .int .i64 t.size, .int .i64 t.cost, .int .i64 (Greedy.fresh cc.floor t)]) rfl rfl rfl sz3 rfl rfl rfl ?_
            refine o_nil ?_
            refine q_then ?_
            refine c_seq ?_
            refine c_region ?_
            refine o_pure (p_fieldAddr (B := B7) (j := 0) (j' := 2) rfl fo39_2 rfl) rfl rfl rfl ?_
            refine o_pure (p_load (i := 2) (v := .slice acc_0 cc.things.length ccc_0) rfl rfl sh37 rfl) rfl rfl rfl ?_
            refine o_pure (p_load_agg (i := 4) (vs := [.int .i64 t.key, .int .i64 t.size, .int .i64 t.cost, .int .i64 (Greedy.fresh cc.floor t)]) rfl rfl sh41 rfl rfl) rfl rfl rfl ?_
            refine o_buildSlice (m := 1) (T := tItem) (L := [(⟨t.key, t.size, t.cost, (Greedy.fresh cc.floor t)⟩ : DItem)]) (vs := [.agg #[.int .i64 t.key, .int .i64 t.size, .int .i64 t.cost, .int .i64 (Greedy.fresh cc.floor t)]]) rfl rfl rfl rfl Try.underlying37 sz41 (by decide) ze41 rfl (by decide) rfl (fun S26 a27 => ?_)
            refine o_append (i := 2) (L := cc.things) (M := [(⟨t.key, t.size, t.cost, (Greedy.fresh cc.floor t)⟩ : DItem)]) (T := tItem) rfl rfl rfl (rd_own (i := 0) rfl) Try.underlying37 Try.underlying37 (by intro k h; cases h) el41 (by intro z; simp [tItem, one1]) (by decide) (by first | omega | (simp only [List.length_cons, List.length_nil]; omega) | (simp only [List.length_append, List.length_cons, List.length_nil, List.length_take, List.length_drop]; omega)) rfl (fun a29 c30 S31 => ?_)
            refine o_pure (p_fieldAddr (B := B7) (j := 0) (j' := 2) rfl fo39_2 rfl) rfl rfl rfl ?_
            refine o_store (i := 3) (v := .slice a29 (cc.things ++ [(⟨t.key, t.size, t.cost, (Greedy.fresh cc.floor t)⟩ : DItem)]).length c30) (cs' := [.int .i64 cc.room, .int .i64 cc.floor, .slice a29 (cc.things ++ [(⟨t.key, t.size, t.cost, (Greedy.fresh cc.floor t)⟩ : DItem)]).length c30]) rfl rfl rfl sz37 rfl rfl rfl ?_
            refine o_nil ?_
            refine q_then ?_
            refine c_seq ?_
            refine c_region ?_
            refine o_pure (p_load_agg (i := 3) (vs := [.int .i64 cc.room, .int .i64 cc.floor, .slice a29 (cc.things ++ [(⟨t.key, t.size, t.cost, (Greedy.fresh cc.floor t)⟩ : DItem)]).length c30]) rfl rfl sh39 rfl rfl) rfl rfl rfl ?_
            refine o_pure (p_move (v := .slice agone gone.length cgone) rfl) rfl rfl rfl ?_
            refine o_storeN (i := 4) (vs := [.int .i64 cc.room, .int .i64 cc.floor, .slice a29 (cc.things ++ [(⟨t.key, t.size, t.cost, (Greedy.fresh cc.floor t)⟩ : DItem)]).length c30]) (cs' := [.int .i64 cc.room, .int .i64 cc.floor, .slice a29 (cc.things ++ [(⟨t.key, t.size, t.cost, (Greedy.fresh cc.floor t)⟩ : DItem)]).length c30]) rfl rfl rfl sz39 rfl rfl rfl rfl ?_
            refine o_pure (p_assign (v := .bool false) rfl) rfl rfl rfl ?_
            refine o_pure (p_assign (v := .slice agone gone.length cgone) rfl) rfl rfl rfl ?_
            refine o_pure (p_assign (v := .int .i64 0) rfl) rfl rfl rfl ?_
            refine o_nil ?_
            refine q_then ?_
            refine c_ret ?_
            obtain ⟨ha, hae⟩ : _ ∧ _ := by
              first | exact Greedy.acc1 (h := h) (t := t) (by assumption) | exact Greedy.acc2 (h := h) (t := t) (by assumption) | exact Greedy.acc_hit (h := h) (t := t) (by assumption) hrt (by assumption) (by omega) | exact Greedy.acc_big (h := h) (t := t) (by assumption) hrt (by assumption) (by assumption) | exact Greedy.acc_new (h := h) (t := t) (by assumption) hrt hI (by assumption)
            have hr0 : (cc.room : Int) = ((Greedy.access h t).1).room := by
              first | (rw [ha]; rfl) | exact hae.symm | (simp only [ha, hae]; done)
            have hr1 : (cc.floor : Int) = ((Greedy.access h t).1).floor := by
              first | (rw [ha]; rfl) | exact hae.symm | (simp only [ha, hae]; done)
            have hr2 : ((cc.things ++ [(⟨t.key, t.size, t.cost, (Greedy.fresh cc.floor t)⟩ : DItem)]) : List DItem) = ((Greedy.access h t).1).things := by
              first | (rw [ha]; rfl) | exact hae.symm | (simp only [ha, hae]; done)
            have hr3 : (false : Bool) = ((Greedy.access h t).2.1) := by
              first | (rw [ha]; rfl) | exact hae.symm | (simp only [ha, hae]; done)
            have hr4 : (gone : List Int) = ((Greedy.access h t).2.2) := by
              first | (rw [ha]; rfl) | exact hae.symm | (simp only [ha, hae]; done)
            have hr5 : (0 : Int) = (Greedy.accessErr h t) := by
              first | (rw [ha]; rfl) | exact hae.symm | (simp only [ha, hae]; done)
            refine q_endM (p := (a29, c30, agone, cgone)) (fun b => S31 b ∨ Sgone b) (rt4 rfl (r_cell (i := 4) rfl rfl sh39 rfl) (r_tmp rfl) (r_tmp rfl) (r_tmp rfl)) (i := 7) rfl ?_ ?_ ?_
            · exact (by have hcc := congr (congr (congr (congr (congr (congrArg (fun (y0 : Int) (y1 : Int) (y2 : List DItem) (y3 : Bool) (y4 : List Int) (y5 : Int) => (.tuple #[.agg #[.int .i64 y0, .int .i64 y1, .slice a29 y2.length c30], .bool y3, .slice agone y4.length cgone, .int .i64 y5] : Value)) hr0) hr1) hr2) hr3) hr4) hr5; exact hcc)
            · intro w hw b hb; rcases hb with hb | hb
              · exact hw.above (i := 7) (j := 2) (by decide) rfl rfl b hb
              · exact hw.above (i := 7) (j := 1) (by decide) rfl rfl b hb
            · intro w hw; exact ⟨Eq.mp (congrArg (fun y => SlR tItem _ w a29 c30 y) hr2) (SlR.mono (fun b hb => by simp [hb]) (SlO.toR (hw.at (i := 2) rfl).here)), Eq.mp (congrArg (fun y => SlR tInt _ w agone cgone y) hr4) (SlR.mono (fun b hb => by simp [hb]) (SlO.toR (hw.at (i := 1) rfl).here))⟩
end Go.Proofs.Ythbfdhphnofacab
