/- The walks, printed by a program from the translation and a specification. -/
import Derived.Test.YthbfdhphnofacabGrF
import Derived.Test.YthbfdhphnofacabGrLaw3
import Derived.Test.YthbfdhphnofacabGrW3
namespace Go.Proofs.Ythbfdhphnofacab
open Go.Sx Go.RowKit
set_option maxHeartbeats 8000000 in
set_option maxRecDepth 100000 in
theorem hoardTouch_step (nrec : Nat) (IH : ∀ (h : DGreedy) (ah_0 : Option Addr) (ch_0 : Nat) (t : DItem) (hy1 : Greedy.Hy h t), h.things.length < nrec → FnM Try.prog 29 [.agg #[.int .i64 h.room, .int .i64 h.floor, .slice ah_0 h.things.length ch_0], .agg #[.int .i64 t.key, .int .i64 t.size, .int .i64 t.cost, .int .i64 t.worth]] (fun w => Rd tItem w ah_0 ch_0 h.things) (Option Addr × Nat × Option Addr × Nat) (fun p => .tuple #[.agg #[.int .i64 (((Greedy.touch h t).1).room), .int .i64 (((Greedy.touch h t).1).floor), .slice p.1 (((Greedy.touch h t).1).things).length p.2.1], .bool ((Greedy.touch h t).2.1), .slice p.2.2.1 ((Greedy.touch h t).2.2).length p.2.2.2]) (fun p S w => SlR tItem S w p.1 p.2.1 (((Greedy.touch h t).1).things) ∧ SlR tInt S w p.2.2.1 p.2.2.2 ((Greedy.touch h t).2.2))) (h : DGreedy) (ah_0 : Option Addr) (ch_0 : Nat) (t : DItem) (hy1 : Greedy.Hy h t) (hrec : h.things.length = nrec) : FnM Try.prog 29 [.agg #[.int .i64 h.room, .int .i64 h.floor, .slice ah_0 h.things.length ch_0], .agg #[.int .i64 t.key, .int .i64 t.size, .int .i64 t.cost, .int .i64 t.worth]] (fun w => Rd tItem w ah_0 ch_0 h.things) (Option Addr × Nat × Option Addr × Nat) (fun p => .tuple #[.agg #[.int .i64 (((Greedy.touch h t).1).room), .int .i64 (((Greedy.touch h t).1).floor), .slice p.1 (((Greedy.touch h t).1).things).length p.2.1], .bool ((Greedy.touch h t).2.1), .slice p.2.2.1 ((Greedy.touch h t).2.2).length p.2.2.2]) (fun p S w => SlR tItem S w p.1 p.2.1 (((Greedy.touch h t).1).things) ∧ SlR tInt S w p.2.2.1 p.2.2.2 ((Greedy.touch h t).2.2)) := by
  refine fnM (nt := 123) (F0 := [(0, .agg #[.int .i64 h.room, .int .i64 h.floor, .slice ah_0 h.things.length ch_0]), (1, .agg #[.int .i64 t.key, .int .i64 t.size, .int .i64 t.cost, .int .i64 t.worth])]) Try.func29 rfl Try.ntmps29 rfl rfl (fun w0 hpre => ?_)
  have hh_0 := hpre
  have hlhh_0 := hh_0.2.1
  have hlen := hy1.fits.len
  have hrm := hy1.room
  have hrt := Greedy.right_ok hy1.right
  have hsb := Greedy.sizes_bd hy1.fits.right
  refine c_seq ?_
  refine c_region ?_
  refine o_box (v := .agg #[.int .i64 h.room, .int .i64 h.floor, .slice ah_0 h.things.length ch_0]) rfl rfl (fun B1 => ?_)
  refine o_box (v := .agg #[.int .i64 t.key, .int .i64 t.size, .int .i64 t.cost, .int .i64 t.worth]) rfl rfl (fun B2 => ?_)
  refine o_alloc ze39 rfl (fun B3 => ?_)
  refine o_pure (p_assign (v := .bool false) rfl) rfl rfl rfl ?_
  refine o_pure (p_assign (v := .slice none 0 0) rfl) rfl rfl rfl ?_
  refine o_nil ?_
  refine q_then ?_
  refine c_seq ?_
  refine c_cut (G := Option Addr × Nat × (Nat → Prop) × Nat) (fun ⟨a4_7, c4_7, S4_7, B4_9⟩ => [(2, .pointer (some ⟨B1, 0, none⟩)), (3, .pointer (some ⟨B2, 0, none⟩)), (4, .pointer (some ⟨B3, 0, none⟩)), (7, .pointer (some ⟨B4_9, 0, none⟩))]) (fun ⟨a4_7, c4_7, S4_7, B4_9⟩ => [box B4_9 [.int .i64 h.room, .int .i64 h.floor, .slice a4_7 h.things.length c4_7] 39, own tItem S4_7 a4_7 c4_7 h.things, box B3 [.int .i64 0, .int .i64 0, .slice none 0 0] 39, box B2 [.int .i64 t.key, .int .i64 t.size, .int .i64 t.cost, .int .i64 t.worth] 41, box B1 [.int .i64 h.room, .int .i64 h.floor, .slice ah_0 h.things.length ch_0] 39, base w0]) (fun K hK5 => ?_) ?_
  · refine c_held hmix [box B3 [.int .i64 0, .int .i64 0, .slice none 0 0] 39, box B2 [.int .i64 t.key, .int .i64 t.size, .int .i64 t.cost, .int .i64 t.worth] 41, box B1 [.int .i64 h.room, .int .i64 h.floor, .slice ah_0 h.things.length ch_0] 39, base w0] rfl rfl ?_
    refine h_take (i := 0) (ls := #[true, false, false, false, false, false, false, false, false, false, false]) rfl (by kernel_rfl) (by kernel_rfl) (by kernel_rfl) (fun _ _ _ h => h) (p_fieldAddr (B := B1) (j := 0) (j' := 0) rfl fo39_0 rfl) rfl rfl rfl (fun _ hw => HeapIs.drop hw (List.Sublist.refl _)) rfl ?_
    refine h_take (i := 1) (ls := #[true, true, false, false, false, false, false, false, false, false, false]) rfl (by kernel_rfl) (by kernel_rfl) (by kernel_rfl) (fun _ _ _ h => h) (p_load (i := 2) (v := .int .i64 h.room) rfl rfl sh3 rfl) rfl rfl rfl (fun _ hw => HeapIs.drop hw (List.Sublist.refl _)) rfl ?_
    refine h_take (i := 2) (ls := #[true, true, true, false, false, false, false, false, false, false, false]) rfl (by kernel_rfl) (by kernel_rfl) (by kernel_rfl) (fun _ _ _ h => h) (p_fieldAddr (B := B1) (j := 0) (j' := 1) rfl fo39_1 rfl) rfl rfl rfl (fun _ hw => HeapIs.drop hw (List.Sublist.refl _)) rfl ?_
    refine h_take (i := 3) (ls := #[true, true, true, true, false, false, false, false, false, false, false]) rfl (by kernel_rfl) (by kernel_rfl) (by kernel_rfl) (fun _ _ _ h => h) (p_load (i := 2) (v := .int .i64 h.floor) rfl rfl sh3 rfl) rfl rfl rfl (fun _ hw => HeapIs.drop hw (List.Sublist.refl _)) rfl ?_
    refine h_take (i := 5) (ls := #[true, true, true, true, false, true, false, false, false, false, false]) rfl (by kernel_rfl) (by kernel_rfl) (by kernel_rfl) (fun _ _ _ h => h) (p_fieldAddr (B := B1) (j := 0) (j' := 2) rfl fo39_2 rfl) rfl rfl rfl (fun _ hw => HeapIs.drop hw (List.Sublist.refl _)) rfl ?_
    refine h_take (i := 6) (ls := #[true, true, true, true, false, true, true, false, false, false, false]) rfl (by kernel_rfl) (by kernel_rfl) (by kernel_rfl) (fun _ _ _ h => h) (p_load (i := 2) (v := .slice ah_0 h.things.length ch_0) rfl rfl sh37 rfl) rfl rfl rfl (fun _ hw => HeapIs.drop hw (List.Sublist.refl _)) rfl ?_
    refine h_two (i := 4) (j := 9) (ls := #[true, true, true, true, true, true, true, false, false, false, false]) (ls' := #[true, true, true, true, false, true, true, false, false, true, false]) (by kernel_rfl) rfl rfl rfl rfl ?_ ?_
    · refine o_buildSlice (m := 0) (T := tItem) (L := []) (vs := []) rfl rfl rfl rfl Try.underlying37 sz41 (by decide) ze41 rfl (by decide) rfl (fun S4_4 a4_4 => ?_)
      refine o_nil ?_
      refine h_next (fun _ hw => HeapIs.drop hw (List.Sublist.cons _ (List.Sublist.cons_cons _ (List.Sublist.cons_cons _ (List.Sublist.cons_cons _ (List.Sublist.cons_cons _ (List.Sublist.slnil))))))) ?_
      refine h_two (i := 7) (j := 9) (ls := #[true, true, true, true, true, true, true, true, false, false, false]) (ls' := #[true, true, true, true, true, true, true, false, false, true, false]) (by kernel_rfl) rfl rfl rfl rfl ?_ ?_
      · refine o_append (i := 0) (L := []) (M := h.things) (T := tItem) rfl rfl rfl (rd_base (i := 4) rfl hh_0) Try.underlying37 Try.underlying37 (by intro k h; cases h) el41 (by intro z; simp [tItem, one1]) (by decide) (by first | omega | (simp only [List.length_cons, List.length_nil]; omega) | (simp only [List.length_append, List.length_cons, List.length_nil, List.length_take, List.length_drop]; omega)) rfl (fun a4_7 c4_7 S4_7 => ?_)
        refine o_nil ?_
        refine h_next (fun _ hw => HeapIs.drop hw (List.Sublist.cons _ (List.Sublist.cons_cons _ (List.Sublist.cons_cons _ (List.Sublist.cons_cons _ (List.Sublist.cons_cons _ (List.Sublist.slnil))))))) ?_
        refine h_take (i := 8) (ls := #[true, true, true, true, true, true, true, true, true, false, false]) rfl (by kernel_rfl) (by kernel_rfl) (by kernel_rfl) (fun _ _ _ h => h) (p_build (cells := [.int .i64 h.room, .int .i64 h.floor, .slice a4_7 h.things.length c4_7]) fp39 ze39 rfl rfl) rfl rfl rfl (fun _ hw => HeapIs.drop hw (List.Sublist.cons _ (List.Sublist.cons_cons _ (List.Sublist.cons_cons _ (List.Sublist.cons_cons _ (List.Sublist.cons_cons _ (List.Sublist.slnil))))))) rfl ?_
        refine h_one (i := 9) (ls := #[true, true, true, true, true, true, true, true, true, true, false]) (by kernel_rfl) rfl rfl ?_
        refine o_alloc ze39 rfl (fun B4_9 => ?_)
        refine o_nil ?_
        refine h_next (fun _ hw => HeapIs.drop hw (List.Sublist.cons _ (List.Sublist.cons _ (List.Sublist.cons_cons _ (List.Sublist.cons_cons _ (List.Sublist.cons_cons _ (List.Sublist.cons_cons _ (List.Sublist.slnil)))))))) ?_
        refine h_one (i := 10) (ls := #[true, true, true, true, true, true, true, true, true, true, true]) (by kernel_rfl) rfl rfl ?_
        refine o_storeN (i := 0) (vs := [.int .i64 h.room, .int .i64 h.floor, .slice a4_7 h.things.length c4_7]) (cs' := [.int .i64 h.room, .int .i64 h.floor, .slice a4_7 h.things.length c4_7]) rfl rfl rfl sz39 rfl rfl rfl rfl ?_
        refine o_nil ?_
        refine h_next (fun _ hw => HeapIs.drop hw (List.Sublist.cons _ (List.Sublist.cons _ (List.Sublist.cons_cons _ (List.Sublist.cons_cons _ (List.Sublist.cons_cons _ (List.Sublist.cons_cons _ (List.Sublist.slnil)))))))) ?_
        refine h_done (by kernel_rfl) ?_
        refine q_kont hK5 (a4_7, c4_7, S4_7, B4_9) (Sub.cons rfl (Sub.cons rfl (Sub.cons rfl (Sub.cons rfl (Sub.nil _))))) (fun _ hw => HeapIs.pick hw [0, 1, 2, 3, 4, 5] (by decide) rfl)
      · refine o_alloc ze39 rfl (fun B4_9 => ?_)
        refine o_nil ?_
        refine h_next (fun _ hw => HeapIs.drop hw (List.Sublist.cons _ (List.Sublist.cons _ (List.Sublist.cons_cons _ (List.Sublist.cons_cons _ (List.Sublist.cons_cons _ (List.Sublist.cons_cons _ (List.Sublist.slnil)))))))) ?_
        refine h_one (i := 7) (ls := #[true, true, true, true, true, true, true, true, false, true, false]) (by kernel_rfl) rfl rfl ?_
        refine o_append (i := 1) (L := []) (M := h.things) (T := tItem) rfl rfl rfl (rd_base (i := 5) rfl hh_0) Try.underlying37 Try.underlying37 (by intro k h; cases h) el41 (by intro z; simp [tItem, one1]) (by decide) (by first | omega | (simp only [List.length_cons, List.length_nil]; omega) | (simp only [List.length_append, List.length_cons, List.length_nil, List.length_take, List.length_drop]; omega)) rfl (fun a4_7 c4_7 S4_7 => ?_)
        refine o_nil ?_
        refine h_next (fun _ hw => HeapIs.drop hw (List.Sublist.cons _ (List.Sublist.cons _ (List.Sublist.cons_cons _ (List.Sublist.cons_cons _ (List.Sublist.cons_cons _ (List.Sublist.cons_cons _ (List.Sublist.slnil)))))))) ?_
        refine h_take (i := 8) (ls := #[true, true, true, true, true, true, true, true, true, true, false]) rfl (by kernel_rfl) (by kernel_rfl) (by kernel_rfl) (fun _ _ _ h => h) (p_build (cells := [.int .i64 h.room, .int .i64 h.floor, .slice a4_7 h.things.length c4_7]) fp39 ze39 rfl rfl) rfl rfl rfl (fun _ hw => HeapIs.drop hw (List.Sublist.cons _ (List.Sublist.cons _ (List.Sublist.cons_cons _ (List.Sublist.cons_cons _ (List.Sublist.cons_cons _ (List.Sublist.cons_cons _ (List.Sublist.slnil)))))))) rfl ?_
        refine h_one (i := 10) (ls := #[true, true, true, true, true, true, true, true, true, true, true]) (by kernel_rfl) rfl rfl ?_
        refine o_storeN (i := 0) (vs := [.int .i64 h.room, .int .i64 h.floor, .slice a4_7 h.things.length c4_7]) (cs' := [.int .i64 h.room, .int .i64 h.floor, .slice a4_7 h.things.length c4_7]) rfl rfl rfl sz39 rfl rfl rfl rfl ?_
        refine o_nil ?_
        refine h_next (fun _ hw => HeapIs.drop hw (List.Sublist.cons _ (List.Sublist.cons _ (List.Sublist.cons_cons _ (List.Sublist.cons_cons _ (List.Sublist.cons_cons _ (List.Sublist.cons_cons _ (List.Sublist.slnil)))))))) ?_
        refine h_done (by kernel_rfl) ?_
        refine q_kont hK5 (a4_7, c4_7, S4_7, B4_9) (Sub.cons rfl (Sub.cons rfl (Sub.cons rfl (Sub.cons rfl (Sub.nil _))))) (fun _ hw => HeapIs.pick hw [0, 1, 2, 3, 4, 5] (by decide) rfl)
    · refine o_alloc ze39 rfl (fun B4_9 => ?_)
      refine o_nil ?_
      refine h_next (fun _ hw => HeapIs.drop hw (List.Sublist.cons _ (List.Sublist.cons_cons _ (List.Sublist.cons_cons _ (List.Sublist.cons_cons _ (List.Sublist.cons_cons _ (List.Sublist.slnil))))))) ?_
      refine h_one (i := 4) (ls := #[true, true, true, true, true, true, true, false, false, true, false]) (by kernel_rfl) rfl rfl ?_
      refine o_buildSlice (m := 0) (T := tItem) (L := []) (vs := []) rfl rfl rfl rfl Try.underlying37 sz41 (by decide) ze41 rfl (by decide) rfl (fun S4_4 a4_4 => ?_)
      refine o_nil ?_
      refine h_next (fun _ hw => HeapIs.drop hw (List.Sublist.cons _ (List.Sublist.cons _ (List.Sublist.cons_cons _ (List.Sublist.cons_cons _ (List.Sublist.cons_cons _ (List.Sublist.cons_cons _ (List.Sublist.slnil)))))))) ?_
      refine h_one (i := 7) (ls := #[true, true, true, true, true, true, true, true, false, true, false]) (by kernel_rfl) rfl rfl ?_
      refine o_append (i := 0) (L := []) (M := h.things) (T := tItem) rfl rfl rfl (rd_base (i := 5) rfl hh_0) Try.underlying37 Try.underlying37 (by intro k h; cases h) el41 (by intro z; simp [tItem, one1]) (by decide) (by first | omega | (simp only [List.length_cons, List.length_nil]; omega) | (simp only [List.length_append, List.length_cons, List.length_nil, List.length_take, List.length_drop]; omega)) rfl (fun a4_7 c4_7 S4_7 => ?_)
      refine o_nil ?_
      refine h_next (fun _ hw => HeapIs.drop hw (List.Sublist.cons _ (List.Sublist.cons _ (List.Sublist.cons_cons _ (List.Sublist.cons_cons _ (List.Sublist.cons_cons _ (List.Sublist.cons_cons _ (List.Sublist.slnil)))))))) ?_
      refine h_take (i := 8) (ls := #[true, true, true, true, true, true, true, true, true, true, false]) rfl (by kernel_rfl) (by kernel_rfl) (by kernel_rfl) (fun _ _ _ h => h) (p_build (cells := [.int .i64 h.room, .int .i64 h.floor, .slice a4_7 h.things.length c4_7]) fp39 ze39 rfl rfl) rfl rfl rfl (fun _ hw => HeapIs.drop hw (List.Sublist.cons _ (List.Sublist.cons _ (List.Sublist.cons_cons _ (List.Sublist.cons_cons _ (List.Sublist.cons_cons _ (List.Sublist.cons_cons _ (List.Sublist.slnil)))))))) rfl ?_
      refine h_one (i := 10) (ls := #[true, true, true, true, true, true, true, true, true, true, true]) (by kernel_rfl) rfl rfl ?_
      refine o_storeN (i := 1) (vs := [.int .i64 h.room, .int .i64 h.floor, .slice a4_7 h.things.length c4_7]) (cs' := [.int .i64 h.room, .int .i64 h.floor, .slice a4_7 h.things.length c4_7]) rfl rfl rfl sz39 rfl rfl rfl rfl ?_
      refine o_nil ?_
      refine h_next (fun _ hw => HeapIs.drop hw (List.Sublist.cons _ (List.Sublist.cons _ (List.Sublist.cons_cons _ (List.Sublist.cons_cons _ (List.Sublist.cons_cons _ (List.Sublist.cons_cons _ (List.Sublist.slnil)))))))) ?_
      refine h_done (by kernel_rfl) ?_
      refine q_kont hK5 (a4_7, c4_7, S4_7, B4_9) (Sub.cons rfl (Sub.cons rfl (Sub.cons rfl (Sub.cons rfl (Sub.nil _))))) (fun _ hw => HeapIs.pick hw [1, 0, 2, 3, 4, 5] (by decide) rfl)
  rintro ⟨a4_7, c4_7, S4_7, B4_9⟩
  show SQ _ 123 w0 _ _ [(2, .pointer (some ⟨B1, 0, none⟩)), (3, .pointer (some ⟨B2, 0, none⟩)), (4, .pointer (some ⟨B3, 0, none⟩)), (7, .pointer (some ⟨B4_9, 0, none⟩))] [box B4_9 [.int .i64 h.room, .int .i64 h.floor, .slice a4_7 h.things.length c4_7] 39, own tItem S4_7 a4_7 c4_7 h.things, box B3 [.int .i64 0, .int .i64 0, .slice none 0 0] 39, box B2 [.int .i64 t.key, .int .i64 t.size, .int .i64 t.cost, .int .i64 t.worth] 41, box B1 [.int .i64 h.room, .int .i64 h.floor, .slice ah_0 h.things.length ch_0] 39, base w0]
  refine q_know (fun w hw => own_len (i := 1) (T := tItem) hw rfl) (fun hlr6 => ?_)
  refine q_then ?_
  refine c_seq ?_
  refine c_seq ?_
  refine c_region ?_
  refine o_pure (p_assign (v := .int .i64 0) rfl) rfl rfl rfl ?_
  refine o_nil ?_
  refine q_then ?_
  refine c_block ?_
  refine c_loop (St := Nat)
    (fun i => [(2, .pointer (some ⟨B1, 0, none⟩)), (3, .pointer (some ⟨B2, 0, none⟩)), (4, .pointer (some ⟨B3, 0, none⟩)), (7, .pointer (some ⟨B4_9, 0, none⟩)), (8, .int .i64 (i : Int))])
    (fun i => [box B4_9 [.int .i64 h.room, .int .i64 h.floor, .slice a4_7 h.things.length c4_7] 39, own tItem S4_7 a4_7 c4_7 h.things, box B3 [.int .i64 0, .int .i64 0, .slice none 0 0] 39, box B2 [.int .i64 t.key, .int .i64 t.size, .int .i64 t.cost, .int .i64 t.worth] 41, box B1 [.int .i64 h.room, .int .i64 h.floor, .slice ah_0 h.things.length ch_0] 39, base w0])
    (fun i => i ≤ h.things.length ∧ ∀ j (hj : j < h.things.length), j < i → h.things[j].key ≠ t.key)
    (fun i => h.things.length - i)
    0 ?_ (Sub.cons rfl (Sub.cons rfl (Sub.cons rfl (Sub.cons rfl (Sub.cons rfl (Sub.nil _)))))) (fun _ hw => hw) ?_
  · exact ⟨Nat.zero_le _, fun j _ h => absurd h (by omega)⟩
  rintro i hI K hK7
  show SC _ _ Try.prog 123 w0 _ _ [(2, .pointer (some ⟨B1, 0, none⟩)), (3, .pointer (some ⟨B2, 0, none⟩)), (4, .pointer (some ⟨B3, 0, none⟩)), (7, .pointer (some ⟨B4_9, 0, none⟩)), (8, .int .i64 (i : Int))] [box B4_9 [.int .i64 h.room, .int .i64 h.floor, .slice a4_7 h.things.length c4_7] 39, own tItem S4_7 a4_7 c4_7 h.things, box B3 [.int .i64 0, .int .i64 0, .slice none 0 0] 39, box B2 [.int .i64 t.key, .int .i64 t.size, .int .i64 t.cost, .int .i64 t.worth] 41, box B1 [.int .i64 h.room, .int .i64 h.floor, .slice ah_0 h.things.length ch_0] 39, base w0]
  refine c_seq ?_
  refine c_seq ?_
  refine c_region ?_
  refine o_pure (p_move (v := .int .i64 (i : Int)) rfl) rfl rfl rfl ?_
  refine o_pure (p_fieldAddr (B := B4_9) (j := 0) (j' := 2) rfl fo39_2 rfl) rfl rfl rfl ?_
  refine o_pure (p_load (i := 0) (v := .slice a4_7 h.things.length c4_7) rfl rfl sh37 rfl) rfl rfl rfl ?_
  refine o_pure (p_len_slice (len := h.things.length) rfl rfl Try.underlying37) rfl rfl rfl ?_
  refine o_pure (p_lt (p := (i : Int)) (q := (h.things.length : Int)) rfl rfl) rfl rfl rfl ?_
  refine o_nil ?_
  refine q_then ?_
  refine c_cond (b := decide ((i : Int) < (h.things.length : Int))) rfl (fun hc8 => ?_) (fun hc8 => ?_)
  · simp only [decide_eq_true_eq] at hc8
    refine c_skip ?_
    refine q_then ?_
    refine c_seq ?_
    refine c_block ?_
    refine c_seq ?_
    refine c_draw hmix (by kernel_rfl) ?_
    refine w_pure (p_fieldAddr (B := B4_9) (j := 0) (j' := 2) rfl fo39_2 rfl) rfl rfl rfl ?_
    refine w_pure (p_load (i := 0) (v := .slice a4_7 h.things.length c4_7) rfl rfl sh37 rfl) rfl rfl rfl ?_
    refine w_pure (p_move (v := .int .i64 (i : Int)) rfl) rfl rfl rfl ?_
    refine w_pure (p_indexAddr (L := h.things) (T := tItem) (i := (i : Int)) rfl rfl (rd_own (i := 1) rfl) Try.underlying37 sz41 (by omega) (by omega)) rfl rfl rfl ?_
    refine w_pure (p_fieldAddrE rfl fo41_0) rfl rfl rfl ?_
    refine w_pure (p_loadF (i := i) (j := 0) (T := tItem) (L := h.things) (v := .int .i64 ((h.things[i]).key)) rfl (rd_own (i := 1) rfl) (by first | assumption | omega) sh3 rfl) rfl rfl rfl ?_
    refine w_pure (p_fieldAddr (B := B2) (j := 0) (j' := 0) rfl fo41_0 rfl) rfl rfl rfl ?_
    refine w_pure (p_load (i := 3) (v := .int .i64 t.key) rfl rfl sh3 rfl) rfl rfl rfl ?_
    refine w_pure (p_eq (p := (h.things[i]).key) (q := t.key) rfl rfl) rfl rfl rfl ?_
    refine w_nil ?_
    refine q_then ?_
    refine c_cond (b := ((h.things[i]).key == t.key)) rfl (fun hc9 => ?_) (fun hc9 => ?_)
    · simp only [beq_iff_eq] at hc9
      refine c_seq ?_
      refine c_held hmix [box B4_9 [.int .i64 h.room, .int .i64 h.floor, .slice a4_7 h.things.length c4_7] 39, ownE tItem S4_7 a4_7 c4_7 (h.things.length), box B3 [.int .i64 0, .int .i64 0, .slice none 0 0] 39, box B2 [.int .i64 t.key, .int .i64 t.size, .int .i64 t.cost, .int .i64 t.worth] 41, box B1 [.int .i64 h.room, .int .i64 h.floor, .slice ah_0 h.things.length ch_0] 39, base w0] rfl rfl ?_
      refine h_take (i := 0) (ls := #[true, false, false, false, false, false, false, false, false, false, false, false, false, false]) rfl (by kernel_rfl) (by kernel_rfl) (by kernel_rfl) (fun _ _ _ h => h) (p_fieldAddr (B := B4_9) (j := 0) (j' := 2) rfl fo39_2 rfl) rfl rfl rfl (fun _ hw => HeapIs.drop (HeapIs.toE (i := 1) (m := h.things.length) (T := tItem) rfl (by simp only [List.length_set]) hw) (List.Sublist.refl _)) rfl ?_
      refine h_take (i := 1) (ls := #[true, true, false, false, false, false, false, false, false, false, false, false, false, false]) rfl (by kernel_rfl) (by kernel_rfl) (by kernel_rfl) (fun _ _ _ h => h) (p_load (i := 0) (v := .slice a4_7 h.things.length c4_7) rfl rfl sh37 rfl) rfl rfl rfl (fun _ hw => HeapIs.drop (HeapIs.toE (i := 1) (m := h.things.length) (T := tItem) rfl (by simp only [List.length_set]) hw) (List.Sublist.refl _)) rfl ?_
      refine h_take (i := 2) (ls := #[true, true, true, false, false, false, false, false, false, false, false, false, false, false]) rfl (by kernel_rfl) (by kernel_rfl) (by kernel_rfl) (fun _ _ _ h => h) (p_move (v := .int .i64 (i : Int)) rfl) rfl rfl rfl (fun _ hw => HeapIs.drop (HeapIs.toE (i := 1) (m := h.things.length) (T := tItem) rfl (by simp only [List.length_set]) hw) (List.Sublist.refl _)) rfl ?_
      refine h_take (i := 3) (ls := #[true, true, true, true, false, false, false, false, false, false, false, false, false, false]) rfl (by kernel_rfl) (by kernel_rfl) (by kernel_rfl) (fun _ _ _ h => h) (p_fieldAddr (B := B1) (j := 0) (j' := 1) rfl fo39_1 rfl) rfl rfl rfl (fun _ hw => HeapIs.drop (HeapIs.toE (i := 1) (m := h.things.length) (T := tItem) rfl (by simp only [List.length_set]) hw) (List.Sublist.refl _)) rfl ?_
      refine h_take (i := 4) (ls := #[true, true, true, true, true, false, false, false, false, false, false, false, false, false]) rfl (by kernel_rfl) (by kernel_rfl) (by kernel_rfl) (fun _ _ _ h => h) (p_load (i := 4) (v := .int .i64 h.floor) rfl rfl sh3 rfl) rfl rfl rfl (fun _ hw => HeapIs.drop (HeapIs.toE (i := 1) (m := h.things.length) (T := tItem) rfl (by simp only [List.length_set]) hw) (List.Sublist.refl _)) rfl ?_
      refine h_take (i := 5) (ls := #[true, true, true, true, true, true, false, false, false, false, false, false, false, false]) rfl (by kernel_rfl) (by kernel_rfl) (by kernel_rfl) (fun _ _ _ h => h) (p_fieldAddr (B := B4_9) (j := 0) (j' := 2) rfl fo39_2 rfl) rfl rfl rfl (fun _ hw => HeapIs.drop (HeapIs.toE (i := 1) (m := h.things.length) (T := tItem) rfl (by simp only [List.length_set]) hw) (List.Sublist.refl _)) rfl ?_
      refine h_take (i := 6) (ls := #[true, true, true, true, true, true, true, false, false, false, false, false, false, false]) rfl (by kernel_rfl) (by kernel_rfl) (by kernel_rfl) (fun _ _ _ h => h) (p_load (i := 0) (v := .slice a4_7 h.things.length c4_7) rfl rfl sh37 rfl) rfl rfl rfl (fun _ hw => HeapIs.drop (HeapIs.toE (i := 1) (m := h.things.length) (T := tItem) rfl (by simp only [List.length_set]) hw) (List.Sublist.refl _)) rfl ?_
      refine h_take (i := 7) (ls := #[true, true, true, true, true, true, true, true, false, false, false, false, false, false]) rfl (by kernel_rfl) (by kernel_rfl) (by kernel_rfl) (fun _ _ _ h => h) (p_move (v := .int .i64 (i : Int)) rfl) rfl rfl rfl (fun _ hw => HeapIs.drop (HeapIs.toE (i := 1) (m := h.things.length) (T := tItem) rfl (by simp only [List.length_set]) hw) (List.Sublist.refl _)) rfl ?_
      refine h_take (i := 8) (ls := #[true, true, true, true, true, true, true, true, true, false, false, false, false, false]) rfl (by kernel_rfl) (by kernel_rfl) (by kernel_rfl) (fun _ _ _ h => h) (p_indexAddrE (T := tItem) (i := (i : Int)) (j := 1) rfl rfl rfl Try.underlying37 sz41 (by omega) (by omega)) rfl rfl rfl (fun _ hw => HeapIs.drop (HeapIs.toE (i := 1) (m := h.things.length) (T := tItem) rfl (by simp only [List.length_set]) hw) (List.Sublist.refl _)) rfl ?_
      refine h_one (i := 9) (ls := #[true, true, true, true, true, true, true, true, true, true, false, false, false, false]) (by kernel_rfl) rfl rfl ?_
      refine o_pure (p_loadEn (i := i) (T := tItem) (L := h.things) (vs := [.int .i64 ((h.things[i]).key), .int .i64 ((h.things[i]).size), .int .i64 ((h.things[i]).cost), .int .i64 ((h.things[i]).worth)]) rfl (rd_own (i := 1) rfl) (by first | assumption | omega) sh41 rfl) rfl rfl rfl ?_
      refine o_nil ?_
      refine h_next (fun _ hw => HeapIs.drop (HeapIs.toE (i := 1) (m := h.things.length) (T := tItem) rfl (by simp only [List.length_set]) hw) (List.Sublist.refl _)) ?_
      refine h_one (i := 10) (ls := #[true, true, true, true, true, true, true, true, true, true, true, false, false, false]) (by kernel_rfl) rfl rfl ?_
      refine o_call0 (v := .int .i64 (Greedy.fresh h.floor (h.things[i]))) rfl (hoardFresh_ok h.floor (h.things[i]) (by first | assumption | exact ⟨hy1.fits.fl, hy1.fits.right _ (List.getElem_mem _)⟩ | exact ⟨hy1.fits.fl, hy1.right⟩)) hf78 (fun _ _ => trivial) rfl ?_
      refine o_nil ?_
      refine h_next (fun _ hw => HeapIs.drop (HeapIs.toE (i := 1) (m := h.things.length) (T := tItem) rfl (by simp only [List.length_set]) hw) (List.Sublist.refl _)) ?_
      refine h_take (i := 11) (ls := #[true, true, true, true, true, true, true, true, true, true, true, true, false, false]) rfl (by kernel_rfl) (by kernel_rfl) (by kernel_rfl) (fun _ _ _ h => h) (p_indexAddrE (T := tItem) (i := (i : Int)) (j := 1) rfl rfl rfl Try.underlying37 sz41 (by omega) (by omega)) rfl rfl rfl (fun _ hw => HeapIs.drop (HeapIs.toE (i := 1) (m := h.things.length) (T := tItem) rfl (by simp only [List.length_set]) hw) (List.Sublist.refl _)) rfl ?_
      refine h_take (i := 12) (ls := #[true, true, true, true, true, true, true, true, true, true, true, true, true, false]) rfl (by kernel_rfl) (by kernel_rfl) (by kernel_rfl) (fun _ _ _ h => h) (p_fieldAddrE rfl fo41_3) rfl rfl rfl (fun _ hw => HeapIs.drop (HeapIs.toE (i := 1) (m := h.things.length) (T := tItem) rfl (by simp only [List.length_set]) hw) (List.Sublist.refl _)) rfl ?_
      refine h_one (i := 13) (ls := #[true, true, true, true, true, true, true, true, true, true, true, true, true, true]) (by kernel_rfl) rfl rfl ?_
      refine o_storeF (j := 3) (i := 1) (T := tItem) (idx := i) (v := .int .i64 (Greedy.fresh h.floor (h.things[i]))) (vs := [.int .i64 (Greedy.fresh h.floor (h.things[i]))]) (z := (⟨(h.things[i]).key, (h.things[i]).size, (h.things[i]).cost, (Greedy.fresh h.floor (h.things[i]))⟩ : DItem)) rfl rfl rfl rfl (by first | assumption | omega | (simp only [List.length_set]; omega)) sz3 rfl rfl rfl rfl (Sub.refl _) ?_
      refine o_nil ?_
      refine h_next (fun _ hw => HeapIs.drop (HeapIs.toE (i := 1) (m := h.things.length) (T := tItem) rfl (by simp only [List.length_set]) hw) (List.Sublist.refl _)) ?_
      refine h_done (by kernel_rfl) ?_
      refine q_cast (F' := [(4, .pointer (some ⟨B3, 0, none⟩)), (7, .pointer (some ⟨B4_9, 0, none⟩))]) (H := [box B4_9 [.int .i64 h.room, .int .i64 h.floor, .slice a4_7 h.things.length c4_7] 39, own tItem S4_7 a4_7 c4_7 (h.things.set i (⟨(h.things[i]).key, (h.things[i]).size, (h.things[i]).cost, (Greedy.fresh h.floor (h.things[i]))⟩ : DItem)), box B3 [.int .i64 0, .int .i64 0, .slice none 0 0] 39, box B2 [.int .i64 t.key, .int .i64 t.size, .int .i64 t.cost, .int .i64 t.worth] 41, box B1 [.int .i64 h.room, .int .i64 h.floor, .slice ah_0 h.things.length ch_0] 39, base w0]) (H' := [box B4_9 [.int .i64 h.room, .int .i64 h.floor, .slice a4_7 (h.things.set i (⟨(h.things[i]).key, (h.things[i]).size, (h.things[i]).cost, (Greedy.fresh h.floor (h.things[i]))⟩ : DItem)).length c4_7] 39, own tItem S4_7 a4_7 c4_7 (h.things.set i (⟨(h.things[i]).key, (h.things[i]).size, (h.things[i]).cost, (Greedy.fresh h.floor (h.things[i]))⟩ : DItem)), box B3 [.int .i64 0, .int .i64 0, .slice none 0 0] 39, box B2 [.int .i64 t.key, .int .i64 t.size, .int .i64 t.cost, .int .i64 t.worth] 41, box B1 [.int .i64 h.room, .int .i64 h.floor, .slice ah_0 h.things.length ch_0] 39, base w0]) (Sub.cons rfl (Sub.cons rfl (Sub.nil _))) (by simp only [List.length_set]) ?_
      refine q_then ?_
      refine c_seq ?_
      refine c_region ?_
      refine o_pure (p_load_agg (i := 0) (vs := [.int .i64 h.room, .int .i64 h.floor, .slice a4_7 (h.things.set i (⟨(h.things[i]).key, (h.things[i]).size, (h.things[i]).cost, (Greedy.fresh h.floor (h.things[i]))⟩ : DItem)).length c4_7]) rfl rfl sh39 rfl rfl) rfl rfl rfl ?_
      refine o_storeN (i := 2) (vs := [.int .i64 h.room, .int .i64 h.floor, .slice a4_7 (h.things.set i (⟨(h.things[i]).key, (h.things[i]).size, (h.things[i]).cost, (Greedy.fresh h.floor (h.things[i]))⟩ : DItem)).length c4_7]) (cs' := [.int .i64 h.room, .int .i64 h.floor, .slice a4_7 (h.things.set i (⟨(h.things[i]).key, (h.things[i]).size, (h.things[i]).cost, (Greedy.fresh h.floor (h.things[i]))⟩ : DItem)).length c4_7]) rfl rfl rfl sz39 rfl rfl rfl rfl ?_
      refine o_pure (p_assign (v := .bool true) rfl) rfl rfl rfl ?_
      refine o_pure (p_assign (v := .slice none 0 0) rfl) rfl rfl rfl ?_
      refine o_nil ?_
      refine q_then ?_
      refine c_ret ?_
      refine q_block_ret (q_then_ret (q_then_ret (q_block_ret (q_then_ret ?_))))
      first
        | have hT := Greedy.touch_hit2 (h := h) (t := t) (i := i) (by omega) (by assumption) (fun j hj hlt => hI.2 j hj hlt)
        | have hT := Greedy.touch_big (h := h) (t := t) hneg (by assumption)
        | have hT := Greedy.touch_rec' (h := h) (t := t) hneg (by assumption) hll (by assumption)
        | have hT := Greedy.touch_fit (h := h) (t := t) hneg (by assumption) (by omega) (by omega)
      have hr0 : (h.room : Int) = ((Greedy.touch h t).1).room := by
        first | (rw [hT]; rfl) | (simp only [hT]; done)
      have hr1 : (h.floor : Int) = ((Greedy.touch h t).1).floor := by
        first | (rw [hT]; rfl) | (simp only [hT]; done)
      have hr2 : ((h.things.set i (⟨(h.things[i]).key, (h.things[i]).size, (h.things[i]).cost, (Greedy.fresh h.floor (h.things[i]))⟩ : DItem)) : List DItem) = ((Greedy.touch h t).1).things := by
        first | (rw [hT]; rfl) | (simp only [hT]; done)
      have hr3 : (true : Bool) = ((Greedy.touch h t).2.1) := by
        first | (rw [hT]; rfl) | (simp only [hT]; done)
      have hr4 : ([] : List Int) = ((Greedy.touch h t).2.2) := by
        first | (rw [hT]; rfl) | (simp only [hT]; done)
      refine q_endM (p := (a4_7, c4_7, none, 0)) (fun b => S4_7 b) (rt3 rfl (r_cell (i := 2) rfl rfl sh39 rfl) (r_tmp rfl) (r_tmp rfl)) (i := 5) rfl ?_ ?_ ?_
      · exact (by have hcc := congr (congr (congr (congr (congrArg (fun (y0 : Int) (y1 : Int) (y2 : List DItem) (y3 : Bool) (y4 : List Int) => (.tuple #[.agg #[.int .i64 y0, .int .i64 y1, .slice a4_7 y2.length c4_7], .bool y3, .slice none y4.length 0] : Value)) hr0) hr1) hr2) hr3) hr4; exact hcc)
      · intro w hw b hb; rcases hb with hb
        · exact hw.above (i := 5) (j := 1) (by decide) rfl rfl b hb
      · intro w hw; exact ⟨Eq.mp (congrArg (fun y => SlR tItem _ w a4_7 c4_7 y) hr2) (SlR.mono (fun b hb => by simp [hb]) (SlO.toR (hw.at (i := 1) rfl).here)), Eq.mp (congrArg (fun y => SlR tInt _ w none 0 y) hr4) (SlR.nil tInt _ w)⟩
    · simp only [beq_eq_false_iff_ne, ne_eq] at hc9
      refine c_skip ?_
      refine q_block_normal (q_then ?_)
      refine c_region ?_
      refine o_pure (p_move (v := .int .i64 (i : Int)) rfl) rfl rfl rfl ?_
      refine o_pure (p_addb (p := (i : Int)) (q := 1) rfl rfl (by omega)) rfl rfl rfl ?_
      refine o_pure (p_assign (v := .int .i64 ((i : Int) + 1)) rfl) rfl rfl rfl ?_
      refine o_nil ?_
      refine q_round hK7 (i + 1) ?_ ?_ ?_ ?_
      · clear hK7
        refine ⟨by omega, fun j hj h2 => ?_⟩
        by_cases e : j = i
        · subst e; assumption
        · exact hI.2 j hj (by omega)
      · (try dsimp only); omega
      · exact Sub.cons rfl (Sub.cons rfl (Sub.cons rfl (Sub.cons rfl (Sub.cons rfl (Sub.nil _)))))
      · exact fun _ hw => HeapIs.pick hw [0, 1, 2, 3, 4, 5] (by decide) rfl
  · simp only [decide_eq_false_iff_not, Int.not_lt] at hc8
    have hneg : Greedy.at_ h.things t.key < 0 := Greedy.at_neg (fun j hj => hI.2 j hj (by omega))
    refine c_exit ?_
    refine q_then_exit (q_then_exit (q_block_exit (q_then ?_)))
    refine c_seq ?_
    refine c_seq ?_
    refine c_region ?_
    refine o_pure (p_fieldAddr (B := B2) (j := 0) (j' := 1) rfl fo41_1 rfl) rfl rfl rfl ?_
    refine o_pure (p_load (i := 3) (v := .int .i64 t.size) rfl rfl sh3 rfl) rfl rfl rfl ?_
    refine o_pure (p_fieldAddr (B := B1) (j := 0) (j' := 0) rfl fo39_0 rfl) rfl rfl rfl ?_
    refine o_pure (p_load (i := 4) (v := .int .i64 h.room) rfl rfl sh3 rfl) rfl rfl rfl ?_
    refine o_pure (p_gt (p := t.size) (q := h.room) rfl rfl) rfl rfl rfl ?_
    refine o_nil ?_
    refine q_then ?_
    refine c_cond (b := decide (h.room < t.size)) rfl (fun hc11 => ?_) (fun hc11 => ?_)
    · simp only [decide_eq_true_eq] at hc11
      refine c_seq ?_
      refine c_region ?_
      refine o_pure (p_load_agg (i := 0) (vs := [.int .i64 h.room, .int .i64 h.floor, .slice a4_7 h.things.length c4_7]) rfl rfl sh39 rfl rfl) rfl rfl rfl ?_
      refine o_storeN (i := 2) (vs := [.int .i64 h.room, .int .i64 h.floor, .slice a4_7 h.things.length c4_7]) (cs' := [.int .i64 h.room, .int .i64 h.floor, .slice a4_7 h.things.length c4_7]) rfl rfl rfl sz39 rfl rfl rfl rfl ?_
      refine o_pure (p_assign (v := .bool false) rfl) rfl rfl rfl ?_
      refine o_pure (p_assign (v := .slice none 0 0) rfl) rfl rfl rfl ?_
      refine o_nil ?_
      refine q_then ?_
      refine c_ret ?_
      refine q_then_ret ?_
      first
        | have hT := Greedy.touch_hit2 (h := h) (t := t) (i := i) (by omega) (by assumption) (fun j hj hlt => hI.2 j hj hlt)
        | have hT := Greedy.touch_big (h := h) (t := t) hneg (by assumption)
        | have hT := Greedy.touch_rec' (h := h) (t := t) hneg (by assumption) hll (by assumption)
        | have hT := Greedy.touch_fit (h := h) (t := t) hneg (by assumption) (by omega) (by omega)
      have hr0 : (h.room : Int) = ((Greedy.touch h t).1).room := by
        first | (rw [hT]; rfl) | (simp only [hT]; done)
      have hr1 : (h.floor : Int) = ((Greedy.touch h t).1).floor := by
        first | (rw [hT]; rfl) | (simp only [hT]; done)
      have hr2 : (h.things : List DItem) = ((Greedy.touch h t).1).things := by
        first | (rw [hT]; rfl) | (simp only [hT]; done)
      have hr3 : (false : Bool) = ((Greedy.touch h t).2.1) := by
        first | (rw [hT]; rfl) | (simp only [hT]; done)
      have hr4 : ([] : List Int) = ((Greedy.touch h t).2.2) := by
        first | (rw [hT]; rfl) | (simp only [hT]; done)
      refine q_endM (p := (a4_7, c4_7, none, 0)) (fun b => S4_7 b) (rt3 rfl (r_cell (i := 2) rfl rfl sh39 rfl) (r_tmp rfl) (r_tmp rfl)) (i := 5) rfl ?_ ?_ ?_
      · exact (by have hcc := congr (congr (congr (congr (congrArg (fun (y0 : Int) (y1 : Int) (y2 : List DItem) (y3 : Bool) (y4 : List Int) => (.tuple #[.agg #[.int .i64 y0, .int .i64 y1, .slice a4_7 y2.length c4_7], .bool y3, .slice none y4.length 0] : Value)) hr0) hr1) hr2) hr3) hr4; exact hcc)
      · intro w hw b hb; rcases hb with hb
        · exact hw.above (i := 5) (j := 1) (by decide) rfl rfl b hb
      · intro w hw; exact ⟨Eq.mp (congrArg (fun y => SlR tItem _ w a4_7 c4_7 y) hr2) (SlR.mono (fun b hb => by simp [hb]) (SlO.toR (hw.at (i := 1) rfl).here)), Eq.mp (congrArg (fun y => SlR tInt _ w none 0 y) hr4) (SlR.nil tInt _ w)⟩
    · simp only [decide_eq_false_iff_not, Int.not_lt] at hc11
      refine c_skip ?_
      refine q_then ?_
      refine c_seq ?_
      refine c_seq ?_
      refine c_draw hmix (by kernel_rfl) ?_
      refine w_pure (p_fieldAddr (B := B4_9) (j := 0) (j' := 2) rfl fo39_2 rfl) rfl rfl rfl ?_
      refine w_pure (p_load (i := 0) (v := .slice a4_7 h.things.length c4_7) rfl rfl sh37 rfl) rfl rfl rfl ?_
      refine w_call0 (v := .int .i64 (Greedy.sizes h.things)) rfl (hoardSizes_ok h.things a4_7 c4_7 (by first | assumption | exact hok.fine | exact hy1.fine | exact (hI.fits).fine | exact Greedy.Fine.of_done hdone (by omega))) hf30 (fun w hw => (rd_own (i := 1) rfl) w hw) rfl ?_
      refine w_pure (p_fieldAddr (B := B2) (j := 0) (j' := 1) rfl fo41_1 rfl) rfl rfl rfl ?_
      refine w_pure (p_load (i := 3) (v := .int .i64 t.size) rfl rfl sh3 rfl) rfl rfl rfl ?_
      refine w_pure (p_addb (p := (Greedy.sizes h.things)) (q := t.size) rfl rfl (by omega)) rfl rfl rfl ?_
      refine w_pure (p_fieldAddr (B := B1) (j := 0) (j' := 0) rfl fo39_0 rfl) rfl rfl rfl ?_
      refine w_pure (p_load (i := 4) (v := .int .i64 h.room) rfl rfl sh3 rfl) rfl rfl rfl ?_
      refine w_pure (p_gt (p := ((Greedy.sizes h.things) + t.size)) (q := h.room) rfl rfl) rfl rfl rfl ?_
      refine w_pure (p_move (v := .bool (decide (h.room < ((Greedy.sizes h.things) + t.size)))) rfl) rfl rfl rfl ?_
      refine w_or (p := 73) 5 ((h.things.length : Int) == 40) ?_ ?_ ?_
      · intro hb12 hk
        simp only [decide_eq_false_iff_not, Int.not_lt] at hb12
        refine w_unguard 68 rfl rfl ?_
        refine w_pure (p_fieldAddr (B := B4_9) (j := 0) (j' := 2) rfl fo39_2 rfl) rfl rfl rfl ?_
        refine w_unguard 68 rfl rfl ?_
        refine w_pure (p_load (i := 0) (v := .slice a4_7 h.things.length c4_7) rfl rfl sh37 rfl) rfl rfl rfl ?_
        refine w_unguard 68 rfl rfl ?_
        refine w_pure (p_len_slice (len := h.things.length) rfl rfl Try.underlying37) rfl rfl rfl ?_
        refine w_unguard 68 rfl rfl ?_
        refine w_pure (p_eq (p := (h.things.length : Int)) (q := 40) rfl rfl) rfl rfl rfl ?_
        refine w_pure (p_pick_false (v := .bool ((h.things.length : Int) == 40)) rfl rfl) rfl rfl rfl ?_
        exact w_sub (Sub.cons rfl (Sub.skip rfl (Sub.skip rfl (Sub.skip rfl (Sub.skip rfl (Sub.skip rfl (Sub.skip rfl (Sub.refl _)))))))) hk
      · intro hb12 hk
        refine w_guard_no rfl 68 rfl rfl rfl rfl rfl ?_
        refine w_guard_no rfl 68 rfl rfl rfl rfl rfl ?_
        refine w_guard_no rfl 68 rfl rfl rfl rfl rfl ?_
        refine w_guard_no rfl 68 rfl rfl rfl rfl rfl ?_
        refine w_pure (p_pick_true (u := .bool true) rfl rfl) rfl rfl rfl ?_
        exact w_sub (Sub.cons rfl (Sub.skip rfl (Sub.skip rfl (Sub.skip rfl (Sub.skip rfl (Sub.skip rfl (Sub.skip rfl (Sub.refl _)))))))) hk
      refine w_nil ?_
      refine q_then ?_
      refine c_cond (b := (decide (h.room < ((Greedy.sizes h.things) + t.size)) || ((h.things.length : Int) == 40))) rfl (fun hc13 => ?_) (fun hc13 => ?_)
      · simp only [Bool.or_eq_true, decide_eq_true_eq, beq_iff_eq] at hc13
        have hp0 : 0 < h.things.length := Greedy.pos_of (by assumption) hc13
        have hll := Greedy.least_lt hp0
        have hgl := Greedy.gone_le' (h := h) (t := t) hll
        refine c_seq ?_
        refine c_region ?_
        refine o_pure (p_fieldAddr (B := B4_9) (j := 0) (j' := 2) rfl fo39_2 rfl) rfl rfl rfl ?_
        refine o_pure (p_load (i := 0) (v := .slice a4_7 h.things.length c4_7) rfl rfl sh37 rfl) rfl rfl rfl ?_
        refine o_call0 (v := .int .i64 (Greedy.least h.things : Int)) rfl (hoardLeast_ok h.things a4_7 c4_7 (by first | assumption | omega | exact Greedy.pos_of hy1 (by assumption))) hf31 (fun w hw => (rd_own (i := 1) rfl) w hw) rfl ?_
        refine o_pure (p_assign (v := .int .i64 (Greedy.least h.things : Int)) rfl) rfl rfl rfl ?_
        refine o_nil ?_
        refine q_then ?_
        refine c_seq ?_
        refine c_region ?_
        refine o_pure (p_fieldAddr (B := B4_9) (j := 0) (j' := 2) rfl fo39_2 rfl) rfl rfl rfl ?_
        refine o_pure (p_load (i := 0) (v := .slice a4_7 h.things.length c4_7) rfl rfl sh37 rfl) rfl rfl rfl ?_
        refine o_pure (p_move (v := .int .i64 (Greedy.least h.things : Int)) rfl) rfl rfl rfl ?_
        refine o_pure (p_indexAddr (L := h.things) (T := tItem) (i := (Greedy.least h.things : Int)) rfl rfl (rd_own (i := 1) rfl) Try.underlying37 sz41 (by omega) (by omega)) rfl rfl rfl ?_
        refine o_pure (p_loadEn (i := Greedy.least h.things) (T := tItem) (L := h.things) (vs := [.int .i64 ((h.things[Greedy.least h.things]).key), .int .i64 ((h.things[Greedy.least h.things]).size), .int .i64 ((h.things[Greedy.least h.things]).cost), .int .i64 ((h.things[Greedy.least h.things]).worth)]) rfl (rd_own (i := 1) rfl) (by first | assumption | omega) sh41 rfl) rfl rfl rfl ?_
        refine o_alloc ze41 rfl (fun B14 => ?_)
        refine o_storeN (i := 0) (vs := [.int .i64 ((h.things[Greedy.least h.things]).key), .int .i64 ((h.things[Greedy.least h.things]).size), .int .i64 ((h.things[Greedy.least h.things]).cost), .int .i64 ((h.things[Greedy.least h.things]).worth)]) (cs' := [.int .i64 ((h.things[Greedy.least h.things]).key), .int .i64 ((h.things[Greedy.least h.things]).size), .int .i64 ((h.things[Greedy.least h.things]).cost), .int .i64 ((h.things[Greedy.least h.things]).worth)]) rfl rfl rfl sz41 rfl rfl rfl rfl ?_
        refine o_nil ?_
        refine q_then ?_
        refine c_seq ?_
        refine c_region ?_
        refine o_pure (p_fieldAddr (B := B14) (j := 0) (j' := 3) rfl fo41_3 rfl) rfl rfl rfl ?_
        refine o_pure (p_load (i := 0) (v := .int .i64 ((h.things[Greedy.least h.things]).worth)) rfl rfl sh3 rfl) rfl rfl rfl ?_
        refine o_pure (p_fieldAddr (B := B4_9) (j := 0) (j' := 1) rfl fo39_1 rfl) rfl rfl rfl ?_
        refine o_store (i := 1) (v := .int .i64 ((h.things[Greedy.least h.things]).worth)) (cs' := [.int .i64 h.room, .int .i64 ((h.things[Greedy.least h.things]).worth), .slice a4_7 h.things.length c4_7]) rfl rfl rfl sz3 rfl rfl rfl ?_
        refine o_nil ?_
        refine q_then ?_
        refine c_seq ?_
        refine c_cut (G := Option Addr × Nat × (Nat → Prop)) (fun ⟨a15_11, c15_11, S15_11⟩ => [(3, .pointer (some ⟨B2, 0, none⟩)), (4, .pointer (some ⟨B3, 0, none⟩)), (7, .pointer (some ⟨B4_9, 0, none⟩)), (10, .pointer (some ⟨B14, 0, none⟩))]) (fun ⟨a15_11, c15_11, S15_11⟩ => [own tItem S15_11 a15_11 c15_11 ((h.things.take (Greedy.least h.things)) ++ (h.things.drop (Greedy.least h.things + 1))), box B14 [.int .i64 ((h.things[Greedy.least h.things]).key), .int .i64 ((h.things[Greedy.least h.things]).size), .int .i64 ((h.things[Greedy.least h.things]).cost), .int .i64 ((h.things[Greedy.least h.things]).worth)] 41, box B4_9 [.int .i64 h.room, .int .i64 ((h.things[Greedy.least h.things]).worth), .slice a15_11 ((h.things.take (Greedy.least h.things)) ++ (h.things.drop (Greedy.least h.things + 1))).length c15_11] 39, own tItem S4_7 a4_7 c4_7 h.things, box B3 [.int .i64 0, .int .i64 0, .slice none 0 0] 39, box B2 [.int .i64 t.key, .int .i64 t.size, .int .i64 t.cost, .int .i64 t.worth] 41, box B1 [.int .i64 h.room, .int .i64 h.floor, .slice ah_0 h.things.length ch_0] 39, base w0]) (fun K hK16 => ?_) ?_
        · refine c_held hmix [box B14 [.int .i64 ((h.things[Greedy.least h.things]).key), .int .i64 ((h.things[Greedy.least h.things]).size), .int .i64 ((h.things[Greedy.least h.things]).cost), .int .i64 ((h.things[Greedy.least h.things]).worth)] 41, own tItem S4_7 a4_7 c4_7 h.things, box B3 [.int .i64 0, .int .i64 0, .slice none 0 0] 39, box B2 [.int .i64 t.key, .int .i64 t.size, .int .i64 t.cost, .int .i64 t.worth] 41, box B1 [.int .i64 h.room, .int .i64 h.floor, .slice ah_0 h.things.length ch_0] 39, base w0] rfl rfl ?_
          refine h_take (i := 1) (ls := #[false, true, false, false, false, false, false, false, false, false, false, false, false, false]) rfl (by kernel_rfl) (by kernel_rfl) (by kernel_rfl) (fun _ _ _ h => h) (p_fieldAddr (B := B4_9) (j := 0) (j' := 2) rfl fo39_2 rfl) rfl rfl rfl (fun _ hw => HeapIs.drop hw (List.Sublist.cons_cons _ (List.Sublist.cons _ (List.Sublist.cons_cons _ (List.Sublist.cons_cons _ (List.Sublist.cons_cons _ (List.Sublist.cons_cons _ (List.Sublist.cons_cons _ (List.Sublist.slnil))))))))) rfl ?_
          refine h_take (i := 3) (ls := #[false, true, false, true, false, false, false, false, false, false, false, false, false, false]) rfl (by kernel_rfl) (by kernel_rfl) (by kernel_rfl) (fun _ _ _ h => h) (p_move (v := .int .i64 (Greedy.least h.things : Int)) rfl) rfl rfl rfl (fun _ hw => HeapIs.drop hw (List.Sublist.cons_cons _ (List.Sublist.cons _ (List.Sublist.cons_cons _ (List.Sublist.cons_cons _ (List.Sublist.cons_cons _ (List.Sublist.cons_cons _ (List.Sublist.cons_cons _ (List.Sublist.slnil))))))))) rfl ?_
          refine h_take (i := 6) (ls := #[false, true, false, true, false, false, true, false, false, false, false, false, false, false]) rfl (by kernel_rfl) (by kernel_rfl) (by kernel_rfl) (fun _ _ _ h => h) (p_fieldAddr (B := B4_9) (j := 0) (j' := 2) rfl fo39_2 rfl) rfl rfl rfl (fun _ hw => HeapIs.drop hw (List.Sublist.cons_cons _ (List.Sublist.cons _ (List.Sublist.cons_cons _ (List.Sublist.cons_cons _ (List.Sublist.cons_cons _ (List.Sublist.cons_cons _ (List.Sublist.cons_cons _ (List.Sublist.slnil))))))))) rfl ?_
          refine h_take (i := 8) (ls := #[false, true, false, true, false, false, true, false, true, false, false, false, false, false]) rfl (by kernel_rfl) (by kernel_rfl) (by kernel_rfl) (fun _ _ _ h => h) (p_move (v := .int .i64 (Greedy.least h.things : Int)) rfl) rfl rfl rfl (fun _ hw => HeapIs.drop hw (List.Sublist.cons_cons _ (List.Sublist.cons _ (List.Sublist.cons_cons _ (List.Sublist.cons_cons _ (List.Sublist.cons_cons _ (List.Sublist.cons_cons _ (List.Sublist.cons_cons _ (List.Sublist.slnil))))))))) rfl ?_
          refine h_take (i := 9) (ls := #[false, true, false, true, false, false, true, false, true, true, false, false, false, false]) rfl (by kernel_rfl) (by kernel_rfl) (by kernel_rfl) (fun _ _ _ h => h) (p_addb (p := (Greedy.least h.things : Int)) (q := 1) rfl rfl (by omega)) rfl rfl rfl (fun _ hw => HeapIs.drop hw (List.Sublist.cons_cons _ (List.Sublist.cons _ (List.Sublist.cons_cons _ (List.Sublist.cons_cons _ (List.Sublist.cons_cons _ (List.Sublist.cons_cons _ (List.Sublist.cons_cons _ (List.Sublist.slnil))))))))) rfl ?_
          refine h_three (i := 0) (j := 2) (k := 7) (ls := #[true, true, false, true, false, false, true, false, true, true, false, false, false, false]) (ls' := #[false, true, true, true, false, false, true, false, true, true, false, false, false, false]) (ls'' := #[false, true, false, true, false, false, true, true, true, true, false, false, false, false]) (by kernel_rfl) rfl rfl rfl rfl rfl rfl ?_ ?_ ?_
          · refine o_buildSlice (m := 0) (T := tItem) (L := []) (vs := []) rfl rfl rfl rfl Try.underlying37 sz41 (by decide) ze41 rfl (by decide) rfl (fun S15_0 a15_0 => ?_)
            refine o_nil ?_
            refine h_next (fun _ hw => HeapIs.drop hw (List.Sublist.cons _ (List.Sublist.cons_cons _ (List.Sublist.cons _ (List.Sublist.cons_cons _ (List.Sublist.cons_cons _ (List.Sublist.cons_cons _ (List.Sublist.cons_cons _ (List.Sublist.cons_cons _ (List.Sublist.slnil)))))))))) ?_
            refine h_two (i := 2) (j := 7) (ls := #[true, true, true, true, false, false, true, false, true, true, false, false, false, false]) (ls' := #[true, true, false, true, false, false, true, true, true, true, false, false, false, false]) (by kernel_rfl) rfl rfl rfl rfl ?_ ?_
            · refine o_pure (p_load (i := 2) (v := .slice a4_7 h.things.length c4_7) rfl rfl sh37 rfl) rfl rfl rfl ?_
              refine o_nil ?_
              refine h_next (fun _ hw => HeapIs.drop hw (List.Sublist.cons _ (List.Sublist.cons_cons _ (List.Sublist.cons _ (List.Sublist.cons_cons _ (List.Sublist.cons_cons _ (List.Sublist.cons_cons _ (List.Sublist.cons_cons _ (List.Sublist.cons_cons _ (List.Sublist.slnil)))))))))) ?_
              refine h_take (i := 4) (ls := #[true, true, true, true, true, false, true, false, true, true, false, false, false, false]) rfl (by kernel_rfl) (by kernel_rfl) (by kernel_rfl) (fun _ _ _ h => h) (p_sliceH (L := h.things) (T := tItem) (h := (Greedy.least h.things : Int)) rfl rfl Try.underlying37 sz41 (by omega) (by omega) (rd_own (i := 1) rfl)) rfl rfl rfl (fun _ hw => HeapIs.drop hw (List.Sublist.cons _ (List.Sublist.cons_cons _ (List.Sublist.cons _ (List.Sublist.cons_cons _ (List.Sublist.cons_cons _ (List.Sublist.cons_cons _ (List.Sublist.cons_cons _ (List.Sublist.cons_cons _ (List.Sublist.slnil)))))))))) rfl ?_
              refine h_two (i := 5) (j := 7) (ls := #[true, true, true, true, true, true, true, false, true, true, false, false, false, false]) (ls' := #[true, true, true, true, true, false, true, true, true, true, false, false, false, false]) (by kernel_rfl) rfl rfl rfl rfl ?_ ?_
              · refine o_append (i := 0) (L := []) (M := (h.things.take (Greedy.least h.things))) (T := tItem) rfl rfl rfl (rd_takeC (hi := Greedy.least h.things) (rd_own (i := 3) rfl) (by omega)) Try.underlying37 Try.underlying37 (by intro k h; cases h) el41 (by intro z; simp [tItem, one1]) (by decide) (by first | omega | (simp only [List.length_cons, List.length_nil]; omega) | (simp only [List.length_append, List.length_cons, List.length_nil, List.length_take, List.length_drop]; omega)) rfl (fun a15_5 c15_5 S15_5 => ?_)
                refine o_nil ?_
                refine h_next (fun _ hw => HeapIs.drop hw (List.Sublist.cons _ (List.Sublist.cons_cons _ (List.Sublist.cons _ (List.Sublist.cons_cons _ (List.Sublist.cons_cons _ (List.Sublist.cons_cons _ (List.Sublist.cons_cons _ (List.Sublist.cons_cons _ (List.Sublist.slnil)))))))))) ?_
                refine h_one (i := 7) (ls := #[true, true, true, true, true, true, true, true, true, true, false, false, false, false]) (by kernel_rfl) rfl rfl ?_
                refine o_pure (p_load (i := 2) (v := .slice a4_7 h.things.length c4_7) rfl rfl sh37 rfl) rfl rfl rfl ?_
                refine o_nil ?_
                refine h_next (fun _ hw => HeapIs.drop hw (List.Sublist.cons _ (List.Sublist.cons_cons _ (List.Sublist.cons _ (List.Sublist.cons_cons _ (List.Sublist.cons_cons _ (List.Sublist.cons_cons _ (List.Sublist.cons_cons _ (List.Sublist.cons_cons _ (List.Sublist.slnil)))))))))) ?_
                refine h_take (i := 10) (ls := #[true, true, true, true, true, true, true, true, true, true, true, false, false, false]) rfl (by kernel_rfl) (by kernel_rfl) (by kernel_rfl) (fun _ _ _ h => h) (p_sliceL (L := h.things) (T := tItem) (l := ((Greedy.least h.things : Int) + 1)) rfl rfl Try.underlying37 sz41 (by omega) (by omega) (rd_own (i := 1) rfl)) rfl rfl rfl (fun _ hw => HeapIs.drop hw (List.Sublist.cons _ (List.Sublist.cons_cons _ (List.Sublist.cons _ (List.Sublist.cons_cons _ (List.Sublist.cons_cons _ (List.Sublist.cons_cons _ (List.Sublist.cons_cons _ (List.Sublist.cons_cons _ (List.Sublist.slnil)))))))))) rfl ?_
                refine h_one (i := 11) (ls := #[true, true, true, true, true, true, true, true, true, true, true, true, false, false]) (by kernel_rfl) rfl rfl ?_
                refine o_append (i := 0) (L := (h.things.take (Greedy.least h.things))) (M := (h.things.drop (Greedy.least h.things + 1))) (T := tItem) rfl rfl rfl (rd_dropC (l := (Greedy.least h.things + 1)) (rd_own (i := 3) rfl) (by omega)) Try.underlying37 Try.underlying37 (by intro k h; cases h) el41 (by intro z; simp [tItem, one1]) (by decide) (by first | omega | (simp only [List.length_cons, List.length_nil]; omega) | (simp only [List.length_append, List.length_cons, List.length_nil, List.length_take, List.length_drop]; omega)) rfl (fun a15_11 c15_11 S15_11 => ?_)
                refine o_nil ?_
                refine h_next (fun _ hw => HeapIs.drop hw (List.Sublist.cons _ (List.Sublist.cons_cons _ (List.Sublist.cons _ (List.Sublist.cons_cons _ (List.Sublist.cons_cons _ (List.Sublist.cons_cons _ (List.Sublist.cons_cons _ (List.Sublist.cons_cons _ (List.Sublist.slnil)))))))))) ?_
                refine h_take (i := 12) (ls := #[true, true, true, true, true, true, true, true, true, true, true, true, true, false]) rfl (by kernel_rfl) (by kernel_rfl) (by kernel_rfl) (fun _ _ _ h => h) (p_fieldAddr (B := B4_9) (j := 0) (j' := 2) rfl fo39_2 rfl) rfl rfl rfl (fun _ hw => HeapIs.drop hw (List.Sublist.cons _ (List.Sublist.cons_cons _ (List.Sublist.cons _ (List.Sublist.cons_cons _ (List.Sublist.cons_cons _ (List.Sublist.cons_cons _ (List.Sublist.cons_cons _ (List.Sublist.cons_cons _ (List.Sublist.slnil)))))))))) rfl ?_
                refine h_one (i := 13) (ls := #[true, true, true, true, true, true, true, true, true, true, true, true, true, true]) (by kernel_rfl) rfl rfl ?_
                refine o_store (i := 2) (v := .slice a15_11 ((h.things.take (Greedy.least h.things)) ++ (h.things.drop (Greedy.least h.things + 1))).length c15_11) (cs' := [.int .i64 h.room, .int .i64 ((h.things[Greedy.least h.things]).worth), .slice a15_11 ((h.things.take (Greedy.least h.things)) ++ (h.things.drop (Greedy.least h.things + 1))).length c15_11]) rfl rfl rfl sz37 rfl rfl rfl ?_
                refine o_nil ?_
                refine h_next (fun _ hw => HeapIs.drop hw (List.Sublist.cons _ (List.Sublist.cons_cons _ (List.Sublist.cons _ (List.Sublist.cons_cons _ (List.Sublist.cons_cons _ (List.Sublist.cons_cons _ (List.Sublist.cons_cons _ (List.Sublist.cons_cons _ (List.Sublist.slnil)))))))))) ?_
                refine h_done (by kernel_rfl) ?_
                refine q_kont hK16 (a15_11, c15_11, S15_11) (Sub.cons rfl (Sub.cons rfl (Sub.cons rfl (Sub.cons rfl (Sub.nil _))))) (fun _ hw => HeapIs.pick hw [0, 1, 2, 3, 4, 5, 6, 7] (by decide) rfl)
              · refine o_pure (p_load (i := 2) (v := .slice a4_7 h.things.length c4_7) rfl rfl sh37 rfl) rfl rfl rfl ?_
                refine o_nil ?_
                refine h_next (fun _ hw => HeapIs.drop hw (List.Sublist.cons _ (List.Sublist.cons_cons _ (List.Sublist.cons _ (List.Sublist.cons_cons _ (List.Sublist.cons_cons _ (List.Sublist.cons_cons _ (List.Sublist.cons_cons _ (List.Sublist.cons_cons _ (List.Sublist.slnil)))))))))) ?_
                refine h_take (i := 10) (ls := #[true, true, true, true, true, false, true, true, true, true, true, false, false, false]) rfl (by kernel_rfl) (by kernel_rfl) (by kernel_rfl) (fun _ _ _ h => h) (p_sliceL (L := h.things) (T := tItem) (l := ((Greedy.least h.things : Int) + 1)) rfl rfl Try.underlying37 sz41 (by omega) (by omega) (rd_own (i := 1) rfl)) rfl rfl rfl (fun _ hw => HeapIs.drop hw (List.Sublist.cons _ (List.Sublist.cons_cons _ (List.Sublist.cons _ (List.Sublist.cons_cons _ (List.Sublist.cons_cons _ (List.Sublist.cons_cons _ (List.Sublist.cons_cons _ (List.Sublist.cons_cons _ (List.Sublist.slnil)))))))))) rfl ?_
                refine h_one (i := 5) (ls := #[true, true, true, true, true, true, true, true, true, true, true, false, false, false]) (by kernel_rfl) rfl rfl ?_
                refine o_append (i := 0) (L := []) (M := (h.things.take (Greedy.least h.things))) (T := tItem) rfl rfl rfl (rd_takeC (hi := Greedy.least h.things) (rd_own (i := 3) rfl) (by omega)) Try.underlying37 Try.underlying37 (by intro k h; cases h) el41 (by intro z; simp [tItem, one1]) (by decide) (by first | omega | (simp only [List.length_cons, List.length_nil]; omega) | (simp only [List.length_append, List.length_cons, List.length_nil, List.length_take, List.length_drop]; omega)) rfl (fun a15_5 c15_5 S15_5 => ?_)
                refine o_nil ?_
                refine h_next (fun _ hw => HeapIs.drop hw (List.Sublist.cons _ (List.Sublist.cons_cons _ (List.Sublist.cons _ (List.Sublist.cons_cons _ (List.Sublist.cons_cons _ (List.Sublist.cons_cons _ (List.Sublist.cons_cons _ (List.Sublist.cons_cons _ (List.Sublist.slnil)))))))))) ?_
                refine h_one (i := 11) (ls := #[true, true, true, true, true, true, true, true, true, true, true, true, false, false]) (by kernel_rfl) rfl rfl ?_
                refine o_append (i := 0) (L := (h.things.take (Greedy.least h.things))) (M := (h.things.drop (Greedy.least h.things + 1))) (T := tItem) rfl rfl rfl (rd_dropC (l := (Greedy.least h.things + 1)) (rd_own (i := 3) rfl) (by omega)) Try.underlying37 Try.underlying37 (by intro k h; cases h) el41 (by intro z; simp [tItem, one1]) (by decide) (by first | omega | (simp only [List.length_cons, List.length_nil]; omega) | (simp only [List.length_append, List.length_cons, List.length_nil, List.length_take, List.length_drop]; omega)) rfl (fun a15_11 c15_11 S15_11 => ?_)
                refine o_nil ?_
                refine h_next (fun _ hw => HeapIs.drop hw (List.Sublist.cons _ (List.Sublist.cons_cons _ (List.Sublist.cons _ (List.Sublist.cons_cons _ (List.Sublist.cons_cons _ (List.Sublist.cons_cons _ (List.Sublist.cons_cons _ (List.Sublist.cons_cons _ (List.Sublist.slnil)))))))))) ?_
                refine h_take (i := 12) (ls := #[true, true, true, true, true, true, true, true, true, true, true, true, true, false]) rfl (by kernel_rfl) (by kernel_rfl) (by kernel_rfl) (fun _ _ _ h => h) (p_fieldAddr (B := B4_9) (j := 0) (j' := 2) rfl fo39_2 rfl) rfl rfl rfl (fun _ hw => HeapIs.drop hw (List.Sublist.cons _ (List.Sublist.cons_cons _ (List.Sublist.cons _ (List.Sublist.cons_cons _ (List.Sublist.cons_cons _ (List.Sublist.cons_cons _ (List.Sublist.cons_cons _ (List.Sublist.cons_cons _ (List.Sublist.slnil)))))))))) rfl ?_
                refine h_one (i := 13) (ls := #[true, true, true, true, true, true, true, true, true, true, true, true, true, true]) (by kernel_rfl) rfl rfl ?_
                refine o_store (i := 2) (v := .slice a15_11 ((h.things.take (Greedy.least h.things)) ++ (h.things.drop (Greedy.least h.things + 1))).length c15_11) (cs' := [.int .i64 h.room, .int .i64 ((h.things[Greedy.least h.things]).worth), .slice a15_11 ((h.things.take (Greedy.least h.things)) ++ (h.things.drop (Greedy.least h.things + 1))).length c15_11]) rfl rfl rfl sz37 rfl rfl rfl ?_
                refine o_nil ?_
                refine h_next (fun _ hw => HeapIs.drop hw (List.Sublist.cons _ (List.Sublist.cons_cons _ (List.Sublist.cons _ (List.Sublist.cons_cons _ (List.Sublist.cons_cons _ (List.Sublist.cons_cons _ (List.Sublist.cons_cons _ (List.Sublist.cons_cons _ (List.Sublist.slnil)))))))))) ?_
                refine h_done (by kernel_rfl) ?_
                refine q_kont hK16 (a15_11, c15_11, S15_11) (Sub.cons rfl (Sub.cons rfl (Sub.cons rfl (Sub.cons rfl (Sub.nil _))))) (fun _ hw => HeapIs.pick hw [0, 1, 2, 3, 4, 5, 6, 7] (by decide) rfl)
            · refine o_pure (p_load (i := 2) (v := .slice a4_7 h.things.length c4_7) rfl rfl sh37 rfl) rfl rfl rfl ?_
              refine o_nil ?_
              refine h_next (fun _ hw => HeapIs.drop hw (List.Sublist.cons _ (List.Sublist.cons_cons _ (List.Sublist.cons _ (List.Sublist.cons_cons _ (List.Sublist.cons_cons _ (List.Sublist.cons_cons _ (List.Sublist.cons_cons _ (List.Sublist.cons_cons _ (List.Sublist.slnil)))))))))) ?_
              refine h_take (i := 10) (ls := #[true, true, false, true, false, false, true, true, true, true, true, false, false, false]) rfl (by kernel_rfl) (by kernel_rfl) (by kernel_rfl) (fun _ _ _ h => h) (p_sliceL (L := h.things) (T := tItem) (l := ((Greedy.least h.things : Int) + 1)) rfl rfl Try.underlying37 sz41 (by omega) (by omega) (rd_own (i := 1) rfl)) rfl rfl rfl (fun _ hw => HeapIs.drop hw (List.Sublist.cons _ (List.Sublist.cons_cons _ (List.Sublist.cons _ (List.Sublist.cons_cons _ (List.Sublist.cons_cons _ (List.Sublist.cons_cons _ (List.Sublist.cons_cons _ (List.Sublist.cons_cons _ (List.Sublist.slnil)))))))))) rfl ?_
              refine h_one (i := 2) (ls := #[true, true, true, true, false, false, true, true, true, true, true, false, false, false]) (by kernel_rfl) rfl rfl ?_
              refine o_pure (p_load (i := 2) (v := .slice a4_7 h.things.length c4_7) rfl rfl sh37 rfl) rfl rfl rfl ?_
              refine o_nil ?_
              refine h_next (fun _ hw => HeapIs.drop hw (List.Sublist.cons _ (List.Sublist.cons_cons _ (List.Sublist.cons _ (List.Sublist.cons_cons _ (List.Sublist.cons_cons _ (List.Sublist.cons_cons _ (List.Sublist.cons_cons _ (List.Sublist.cons_cons _ (List.Sublist.slnil)))))))))) ?_
              refine h_take (i := 4) (ls := #[true, true, true, true, true, false, true, true, true, true, true, false, false, false]) rfl (by kernel_rfl) (by kernel_rfl) (by kernel_rfl) (fun _ _ _ h => h) (p_sliceH (L := h.things) (T := tItem) (h := (Greedy.least h.things : Int)) rfl rfl Try.underlying37 sz41 (by omega) (by omega) (rd_own (i := 1) rfl)) rfl rfl rfl (fun _ hw => HeapIs.drop hw (List.Sublist.cons _ (List.Sublist.cons_cons _ (List.Sublist.cons _ (List.Sublist.cons_cons _ (List.Sublist.cons_cons _ (List.Sublist.cons_cons _ (List.Sublist.cons_cons _ (List.Sublist.cons_cons _ (List.Sublist.slnil)))))))))) rfl ?_
              refine h_one (i := 5) (ls := #[true, true, true, true, true, true, true, true, true, true, true, false, false, false]) (by kernel_rfl) rfl rfl ?_
              refine o_append (i := 0) (L := []) (M := (h.things.take (Greedy.least h.things))) (T := tItem) rfl rfl rfl (rd_takeC (hi := Greedy.least h.things) (rd_own (i := 3) rfl) (by omega)) Try.underlying37 Try.underlying37 (by intro k h; cases h) el41 (by intro z; simp [tItem, one1]) (by decide) (by first | omega | (simp only [List.length_cons, List.length_nil]; omega) | (simp only [List.length_append, List.length_cons, List.length_nil, List.length_take, List.length_drop]; omega)) rfl (fun a15_5 c15_5 S15_5 => ?_)
              refine o_nil ?_
              refine h_next (fun _ hw => HeapIs.drop hw (List.Sublist.cons _ (List.Sublist.cons_cons _ (List.Sublist.cons _ (List.Sublist.cons_cons _ (List.Sublist.cons_cons _ (List.Sublist.cons_cons _ (List.Sublist.cons_cons _ (List.Sublist.cons_cons _ (List.Sublist.slnil)))))))))) ?_
              refine h_one (i := 11) (ls := #[true, true, true, true, true, true, true, true, true, true, true, true, false, false]) (by kernel_rfl) rfl rfl ?_
              refine o_append (i := 0) (L := (h.things.take (Greedy.least h.things))) (M := (h.things.drop (Greedy.least h.things + 1))) (T := tItem) rfl rfl rfl (rd_dropC (l := (Greedy.least h.things + 1)) (rd_own (i := 3) rfl) (by omega)) Try.underlying37 Try.underlying37 (by intro k h; cases h) el41 (by intro z; simp [tItem, one1]) (by decide) (by first | omega | (simp only [List.length_cons, List.length_nil]; omega) | (simp only [List.length_append, List.length_cons, List.length_nil, List.length_take, List.length_drop]; omega)) rfl (fun a15_11 c15_11 S15_11 => ?_)
              refine o_nil ?_
              refine h_next (fun _ hw => HeapIs.drop hw (List.Sublist.cons _ (List.Sublist.cons_cons _ (List.Sublist.cons _ (List.Sublist.cons_cons _ (List.Sublist.cons_cons _ (List.Sublist.cons_cons _ (List.Sublist.cons_cons _ (List.Sublist.cons_cons _ (List.Sublist.slnil)))))))))) ?_
              refine h_take (i := 12) (ls := #[true, true, true, true, true, true, true, true, true, true, true, true, true, false]) rfl (by kernel_rfl) (by kernel_rfl) (by kernel_rfl) (fun _ _ _ h => h) (p_fieldAddr (B := B4_9) (j := 0) (j' := 2) rfl fo39_2 rfl) rfl rfl rfl (fun _ hw => HeapIs.drop hw (List.Sublist.cons _ (List.Sublist.cons_cons _ (List.Sublist.cons _ (List.Sublist.cons_cons _ (List.Sublist.cons_cons _ (List.Sublist.cons_cons _ (List.Sublist.cons_cons _ (List.Sublist.cons_cons _ (List.Sublist.slnil)))))))))) rfl ?_
              refine h_one (i := 13) (ls := #[true, true, true, true, true, true, true, true, true, true, true, true, true, true]) (by kernel_rfl) rfl rfl ?_
              refine o_store (i := 2) (v := .slice a15_11 ((h.things.take (Greedy.least h.things)) ++ (h.things.drop (Greedy.least h.things + 1))).length c15_11) (cs' := [.int .i64 h.room, .int .i64 ((h.things[Greedy.least h.things]).worth), .slice a15_11 ((h.things.take (Greedy.least h.things)) ++ (h.things.drop (Greedy.least h.things + 1))).length c15_11]) rfl rfl rfl sz37 rfl rfl rfl ?_
              refine o_nil ?_
              refine h_next (fun _ hw => HeapIs.drop hw (List.Sublist.cons _ (List.Sublist.cons_cons _ (List.Sublist.cons _ (List.Sublist.cons_cons _ (List.Sublist.cons_cons _ (List.Sublist.cons_cons _ (List.Sublist.cons_cons _ (List.Sublist.cons_cons _ (List.Sublist.slnil)))))))))) ?_
              refine h_done (by kernel_rfl) ?_
              refine q_kont hK16 (a15_11, c15_11, S15_11) (Sub.cons rfl (Sub.cons rfl (Sub.cons rfl (Sub.cons rfl (Sub.nil _))))) (fun _ hw => HeapIs.pick hw [0, 1, 2, 3, 4, 5, 6, 7] (by decide) rfl)
          · refine o_pure (p_load (i := 1) (v := .slice a4_7 h.things.length c4_7) rfl rfl sh37 rfl) rfl rfl rfl ?_
            refine o_nil ?_
            refine h_next (fun _ hw => HeapIs.drop hw (List.Sublist.cons_cons _ (List.Sublist.cons _ (List.Sublist.cons_cons _ (List.Sublist.cons_cons _ (List.Sublist.cons_cons _ (List.Sublist.cons_cons _ (List.Sublist.cons_cons _ (List.Sublist.slnil))))))))) ?_
            refine h_take (i := 4) (ls := #[false, true, true, true, true, false, true, false, true, true, false, false, false, false]) rfl (by kernel_rfl) (by kernel_rfl) (by kernel_rfl) (fun _ _ _ h => h) (p_sliceH (L := h.things) (T := tItem) (h := (Greedy.least h.things : Int)) rfl rfl Try.underlying37 sz41 (by omega) (by omega) (rd_own (i := 1) rfl)) rfl rfl rfl (fun _ hw => HeapIs.drop hw (List.Sublist.cons_cons _ (List.Sublist.cons _ (List.Sublist.cons_cons _ (List.Sublist.cons_cons _ (List.Sublist.cons_cons _ (List.Sublist.cons_cons _ (List.Sublist.cons_cons _ (List.Sublist.slnil))))))))) rfl ?_
            refine h_two (i := 0) (j := 7) (ls := #[true, true, true, true, true, false, true, false, true, true, false, false, false, false]) (ls' := #[false, true, true, true, true, false, true, true, true, true, false, false, false, false]) (by kernel_rfl) rfl rfl rfl rfl ?_ ?_
            · refine o_buildSlice (m := 0) (T := tItem) (L := []) (vs := []) rfl rfl rfl rfl Try.underlying37 sz41 (by decide) ze41 rfl (by decide) rfl (fun S15_0 a15_0 => ?_)
              refine o_nil ?_
              refine h_next (fun _ hw => HeapIs.drop hw (List.Sublist.cons _ (List.Sublist.cons_cons _ (List.Sublist.cons _ (List.Sublist.cons_cons _ (List.Sublist.cons_cons _ (List.Sublist.cons_cons _ (List.Sublist.cons_cons _ (List.Sublist.cons_cons _ (List.Sublist.slnil)))))))))) ?_
              refine h_two (i := 5) (j := 7) (ls := #[true, true, true, true, true, true, true, false, true, true, false, false, false, false]) (ls' := #[true, true, true, true, true, false, true, true, true, true, false, false, false, false]) (by kernel_rfl) rfl rfl rfl rfl ?_ ?_
              · refine o_append (i := 0) (L := []) (M := (h.things.take (Greedy.least h.things))) (T := tItem) rfl rfl rfl (rd_takeC (hi := Greedy.least h.things) (rd_own (i := 3) rfl) (by omega)) Try.underlying37 Try.underlying37 (by intro k h; cases h) el41 (by intro z; simp [tItem, one1]) (by decide) (by first | omega | (simp only [List.length_cons, List.length_nil]; omega) | (simp only [List.length_append, List.length_cons, List.length_nil, List.length_take, List.length_drop]; omega)) rfl (fun a15_5 c15_5 S15_5 => ?_)
                refine o_nil ?_
                refine h_next (fun _ hw => HeapIs.drop hw (List.Sublist.cons _ (List.Sublist.cons_cons _ (List.Sublist.cons _ (List.Sublist.cons_cons _ (List.Sublist.cons_cons _ (List.Sublist.cons_cons _ (List.Sublist.cons_cons _ (List.Sublist.cons_cons _ (List.Sublist.slnil)))))))))) ?_
                refine h_one (i := 7) (ls := #[true, true, true, true, true, true, true, true, true, true, false, false, false, false]) (by kernel_rfl) rfl rfl ?_
                refine o_pure (p_load (i := 2) (v := .slice a4_7 h.things.length c4_7) rfl rfl sh37 rfl) rfl rfl rfl ?_
                refine o_nil ?_
                refine h_next (fun _ hw => HeapIs.drop hw (List.Sublist.cons _ (List.Sublist.cons_cons _ (List.Sublist.cons _ (List.Sublist.cons_cons _ (List.Sublist.cons_cons _ (List.Sublist.cons_cons _ (List.Sublist.cons_cons _ (List.Sublist.cons_cons _ (List.Sublist.slnil)))))))))) ?_
                refine h_take (i := 10) (ls := #[true, true, true, true, true, true, true, true, true, true, true, false, false, false]) rfl (by kernel_rfl) (by kernel_rfl) (by kernel_rfl) (fun _ _ _ h => h) (p_sliceL (L := h.things) (T := tItem) (l := ((Greedy.least h.things : Int) + 1)) rfl rfl Try.underlying37 sz41 (by omega) (by omega) (rd_own (i := 1) rfl)) rfl rfl rfl (fun _ hw => HeapIs.drop hw (List.Sublist.cons _ (List.Sublist.cons_cons _ (List.Sublist.cons _ (List.Sublist.cons_cons _ (List.Sublist.cons_cons _ (List.Sublist.cons_cons _ (List.Sublist.cons_cons _ (List.Sublist.cons_cons _ (List.Sublist.slnil)))))))))) rfl ?_
                refine h_one (i := 11) (ls := #[true, true, true, true, true, true, true, true, true, true, true, true, false, false]) (by kernel_rfl) rfl rfl ?_
                refine o_append (i := 0) (L := (h.things.take (Greedy.least h.things))) (M := (h.things.drop (Greedy.least h.things + 1))) (T := tItem) rfl rfl rfl (rd_dropC (l := (Greedy.least h.things + 1)) (rd_own (i := 3) rfl) (by omega)) Try.underlying37 Try.underlying37 (by intro k h; cases h) el41 (by intro z; simp [tItem, one1]) (by decide) (by first | omega | (simp only [List.length_cons, List.length_nil]; omega) | (simp only [List.length_append, List.length_cons, List.length_nil, List.length_take, List.length_drop]; omega)) rfl (fun a15_11 c15_11 S15_11 => ?_)
                refine o_nil ?_
                refine h_next (fun _ hw => HeapIs.drop hw (List.Sublist.cons _ (List.Sublist.cons_cons _ (List.Sublist.cons _ (List.Sublist.cons_cons _ (List.Sublist.cons_cons _ (List.Sublist.cons_cons _ (List.Sublist.cons_cons _ (List.Sublist.cons_cons _ (List.Sublist.slnil)))))))))) ?_
                refine h_take (i := 12) (ls := #[true, true, true, true, true, true, true, true, true, true, true, true, true, false]) rfl (by kernel_rfl) (by kernel_rfl) (by kernel_rfl) (fun _ _ _ h => h) (p_fieldAddr (B := B4_9) (j := 0) (j' := 2) rfl fo39_2 rfl) rfl rfl rfl (fun _ hw => HeapIs.drop hw (List.Sublist.cons _ (List.Sublist.cons_cons _ (List.Sublist.cons _ (List.Sublist.cons_cons _ (List.Sublist.cons_cons _ (List.Sublist.cons_cons _ (List.Sublist.cons_cons _ (List.Sublist.cons_cons _ (List.Sublist.slnil)))))))))) rfl ?_
                refine h_one (i := 13) (ls := #[true, true, true, true, true, true, true, true, true, true, true, true, true, true]) (by kernel_rfl) rfl rfl ?_
                refine o_store (i := 2) (v := .slice a15_11 ((h.things.take (Greedy.least h.things)) ++ (h.things.drop (Greedy.least h.things + 1))).length c15_11) (cs' := [.int .i64 h.room, .int .i64 ((h.things[Greedy.least h.things]).worth), .slice a15_11 ((h.things.take (Greedy.least h.things)) ++ (h.things.drop (Greedy.least h.things + 1))).length c15_11]) rfl rfl rfl sz37 rfl rfl rfl ?_
                refine o_nil ?_
                refine h_next (fun _ hw => HeapIs.drop hw (List.Sublist.cons _ (List.Sublist.cons_cons _ (List.Sublist.cons _ (List.Sublist.cons_cons _ (List.Sublist.cons_cons _ (List.Sublist.cons_cons _ (List.Sublist.cons_cons _ (List.Sublist.cons_cons _ (List.Sublist.slnil)))))))))) ?_
                refine h_done (by kernel_rfl) ?_
                refine q_kont hK16 (a15_11, c15_11, S15_11) (Sub.cons rfl (Sub.cons rfl (Sub.cons rfl (Sub.cons rfl (Sub.nil _))))) (fun _ hw => HeapIs.pick hw [0, 1, 2, 3, 4, 5, 6, 7] (by decide) rfl)
              · refine o_pure (p_load (i := 2) (v := .slice a4_7 h.things.length c4_7) rfl rfl sh37 rfl) rfl rfl rfl ?_
                refine o_nil ?_
                refine h_next (fun _ hw => HeapIs.drop hw (List.Sublist.cons _ (List.Sublist.cons_cons _ (List.Sublist.cons _ (List.Sublist.cons_cons _ (List.Sublist.cons_cons _ (List.Sublist.cons_cons _ (List.Sublist.cons_cons _ (List.Sublist.cons_cons _ (List.Sublist.slnil)))))))))) ?_
                refine h_take (i := 10) (ls := #[true, true, true, true, true, false, true, true, true, true, true, false, false, false]) rfl (by kernel_rfl) (by kernel_rfl) (by kernel_rfl) (fun _ _ _ h => h) (p_sliceL (L := h.things) (T := tItem) (l := ((Greedy.least h.things : Int) + 1)) rfl rfl Try.underlying37 sz41 (by omega) (by omega) (rd_own (i := 1) rfl)) rfl rfl rfl (fun _ hw => HeapIs.drop hw (List.Sublist.cons _ (List.Sublist.cons_cons _ (List.Sublist.cons _ (List.Sublist.cons_cons _ (List.Sublist.cons_cons _ (List.Sublist.cons_cons _ (List.Sublist.cons_cons _ (List.Sublist.cons_cons _ (List.Sublist.slnil)))))))))) rfl ?_
                refine h_one (i := 5) (ls := #[true, true, true, true, true, true, true, true, true, true, true, false, false, false]) (by kernel_rfl) rfl rfl ?_
                refine o_append (i := 0) (L := []) (M := (h.things.take (Greedy.least h.things))) (T := tItem) rfl rfl rfl (rd_takeC (hi := Greedy.least h.things) (rd_own (i := 3) rfl) (by omega)) Try.underlying37 Try.underlying37 (by intro k h; cases h) el41 (by intro z; simp [tItem, one1]) (by decide) (by first | omega | (simp only [List.length_cons, List.length_nil]; omega) | (simp only [List.length_append, List.length_cons, List.length_nil, List.length_take, List.length_drop]; omega)) rfl (fun a15_5 c15_5 S15_5 => ?_)
                refine o_nil ?_
                refine h_next (fun _ hw => HeapIs.drop hw (List.Sublist.cons _ (List.Sublist.cons_cons _ (List.Sublist.cons _ (List.Sublist.cons_cons _ (List.Sublist.cons_cons _ (List.Sublist.cons_cons _ (List.Sublist.cons_cons _ (List.Sublist.cons_cons _ (List.Sublist.slnil)))))))))) ?_
                refine h_one (i := 11) (ls := #[true, true, true, true, true, true, true, true, true, true, true, true, false, false]) (by kernel_rfl) rfl rfl ?_
                refine o_append (i := 0) (L := (h.things.take (Greedy.least h.things))) (M := (h.things.drop (Greedy.least h.things + 1))) (T := tItem) rfl rfl rfl (rd_dropC (l := (Greedy.least h.things + 1)) (rd_own (i := 3) rfl) (by omega)) Try.underlying37 Try.underlying37 (by intro k h; cases h) el41 (by intro z; simp [tItem, one1]) (by decide) (by first | omega | (simp only [List.length_cons, List.length_nil]; omega) | (simp only [List.length_append, List.length_cons, List.length_nil, List.length_take, List.length_drop]; omega)) rfl (fun a15_11 c15_11 S15_11 => ?_)
                refine o_nil ?_
                refine h_next (fun _ hw => HeapIs.drop hw (List.Sublist.cons _ (List.Sublist.cons_cons _ (List.Sublist.cons _ (List.Sublist.cons_cons _ (List.Sublist.cons_cons _ (List.Sublist.cons_cons _ (List.Sublist.cons_cons _ (List.Sublist.cons_cons _ (List.Sublist.slnil)))))))))) ?_
                refine h_take (i := 12) (ls := #[true, true, true, true, true, true, true, true, true, true, true, true, true, false]) rfl (by kernel_rfl) (by kernel_rfl) (by kernel_rfl) (fun _ _ _ h => h) (p_fieldAddr (B := B4_9) (j := 0) (j' := 2) rfl fo39_2 rfl) rfl rfl rfl (fun _ hw => HeapIs.drop hw (List.Sublist.cons _ (List.Sublist.cons_cons _ (List.Sublist.cons _ (List.Sublist.cons_cons _ (List.Sublist.cons_cons _ (List.Sublist.cons_cons _ (List.Sublist.cons_cons _ (List.Sublist.cons_cons _ (List.Sublist.slnil)))))))))) rfl ?_
                refine h_one (i := 13) (ls := #[true, true, true, true, true, true, true, true, true, true, true, true, true, true]) (by kernel_rfl) rfl rfl ?_
                refine o_store (i := 2) (v := .slice a15_11 ((h.things.take (Greedy.least h.things)) ++ (h.things.drop (Greedy.least h.things + 1))).length c15_11) (cs' := [.int .i64 h.room, .int .i64 ((h.things[Greedy.least h.things]).worth), .slice a15_11 ((h.things.take (Greedy.least h.things)) ++ (h.things.drop (Greedy.least h.things + 1))).length c15_11]) rfl rfl rfl sz37 rfl rfl rfl ?_
                refine o_nil ?_
                refine h_next (fun _ hw => HeapIs.drop hw (List.Sublist.cons _ (List.Sublist.cons_cons _ (List.Sublist.cons _ (List.Sublist.cons_cons _ (List.Sublist.cons_cons _ (List.Sublist.cons_cons _ (List.Sublist.cons_cons _ (List.Sublist.cons_cons _ (List.Sublist.slnil)))))))))) ?_
                refine h_done (by kernel_rfl) ?_
                refine q_kont hK16 (a15_11, c15_11, S15_11) (Sub.cons rfl (Sub.cons rfl (Sub.cons rfl (Sub.cons rfl (Sub.nil _))))) (fun _ hw => HeapIs.pick hw [0, 1, 2, 3, 4, 5, 6, 7] (by decide) rfl)
            · refine o_pure (p_load (i := 1) (v := .slice a4_7 h.things.length c4_7) rfl rfl sh37 rfl) rfl rfl rfl ?_
              refine o_nil ?_
              refine h_next (fun _ hw => HeapIs.drop hw (List.Sublist.cons_cons _ (List.Sublist.cons _ (List.Sublist.cons_cons _ (List.Sublist.cons_cons _ (List.Sublist.cons_cons _ (List.Sublist.cons_cons _ (List.Sublist.cons_cons _ (List.Sublist.slnil))))))))) ?_
              refine h_take (i := 10) (ls := #[false, true, true, true, true, false, true, true, true, true, true, false, false, false]) rfl (by kernel_rfl) (by kernel_rfl) (by kernel_rfl) (fun _ _ _ h => h) (p_sliceL (L := h.things) (T := tItem) (l := ((Greedy.least h.things : Int) + 1)) rfl rfl Try.underlying37 sz41 (by omega) (by omega) (rd_own (i := 1) rfl)) rfl rfl rfl (fun _ hw => HeapIs.drop hw (List.Sublist.cons_cons _ (List.Sublist.cons _ (List.Sublist.cons_cons _ (List.Sublist.cons_cons _ (List.Sublist.cons_cons _ (List.Sublist.cons_cons _ (List.Sublist.cons_cons _ (List.Sublist.slnil))))))))) rfl ?_
              refine h_one (i := 0) (ls := #[true, true, true, true, true, false, true, true, true, true, true, false, false, false]) (by kernel_rfl) rfl rfl ?_
              refine o_buildSlice (m := 0) (T := tItem) (L := []) (vs := []) rfl rfl rfl rfl Try.underlying37 sz41 (by decide) ze41 rfl (by decide) rfl (fun S15_0 a15_0 => ?_)
              refine o_nil ?_
              refine h_next (fun _ hw => HeapIs.drop hw (List.Sublist.cons _ (List.Sublist.cons_cons _ (List.Sublist.cons _ (List.Sublist.cons_cons _ (List.Sublist.cons_cons _ (List.Sublist.cons_cons _ (List.Sublist.cons_cons _ (List.Sublist.cons_cons _ (List.Sublist.slnil)))))))))) ?_
              refine h_one (i := 5) (ls := #[true, true, true, true, true, true, true, true, true, true, true, false, false, false]) (by kernel_rfl) rfl rfl ?_
              refine o_append (i := 0) (L := []) (M := (h.things.take (Greedy.least h.things))) (T := tItem) rfl rfl rfl (rd_takeC (hi := Greedy.least h.things) (rd_own (i := 3) rfl) (by omega)) Try.underlying37 Try.underlying37 (by intro k h; cases h) el41 (by intro z; simp [tItem, one1]) (by decide) (by first | omega | (simp only [List.length_cons, List.length_nil]; omega) | (simp only [List.length_append, List.length_cons, List.length_nil, List.length_take, List.length_drop]; omega)) rfl (fun a15_5 c15_5 S15_5 => ?_)
              refine o_nil ?_
              refine h_next (fun _ hw => HeapIs.drop hw (List.Sublist.cons _ (List.Sublist.cons_cons _ (List.Sublist.cons _ (List.Sublist.cons_cons _ (List.Sublist.cons_cons _ (List.Sublist.cons_cons _ (List.Sublist.cons_cons _ (List.Sublist.cons_cons _ (List.Sublist.slnil)))))))))) ?_
              refine h_one (i := 11) (ls := #[true, true, true, true, true, true, true, true, true, true, true, true, false, false]) (by kernel_rfl) rfl rfl ?_
              refine o_append (i := 0) (L := (h.things.take (Greedy.least h.things))) (M := (h.things.drop (Greedy.least h.things + 1))) (T := tItem) rfl rfl rfl (rd_dropC (l := (Greedy.least h.things + 1)) (rd_own (i := 3) rfl) (by omega)) Try.underlying37 Try.underlying37 (by intro k h; cases h) el41 (by intro z; simp [tItem, one1]) (by decide) (by first | omega | (simp only [List.length_cons, List.length_nil]; omega) | (simp only [List.length_append, List.length_cons, List.length_nil, List.length_take, List.length_drop]; omega)) rfl (fun a15_11 c15_11 S15_11 => ?_)
              refine o_nil ?_
              refine h_next (fun _ hw => HeapIs.drop hw (List.Sublist.cons _ (List.Sublist.cons_cons _ (List.Sublist.cons _ (List.Sublist.cons_cons _ (List.Sublist.cons_cons _ (List.Sublist.cons_cons _ (List.Sublist.cons_cons _ (List.Sublist.cons_cons _ (List.Sublist.slnil)))))))))) ?_
              refine h_take (i := 12) (ls := #[true, true, true, true, true, true, true, true, true, true, true, true, true, false]) rfl (by kernel_rfl) (by kernel_rfl) (by kernel_rfl) (fun _ _ _ h => h) (p_fieldAddr (B := B4_9) (j := 0) (j' := 2) rfl fo39_2 rfl) rfl rfl rfl (fun _ hw => HeapIs.drop hw (List.Sublist.cons _ (List.Sublist.cons_cons _ (List.Sublist.cons _ (List.Sublist.cons_cons _ (List.Sublist.cons_cons _ (List.Sublist.cons_cons _ (List.Sublist.cons_cons _ (List.Sublist.cons_cons _ (List.Sublist.slnil)))))))))) rfl ?_
              refine h_one (i := 13) (ls := #[true, true, true, true, true, true, true, true, true, true, true, true, true, true]) (by kernel_rfl) rfl rfl ?_
              refine o_store (i := 2) (v := .slice a15_11 ((h.things.take (Greedy.least h.things)) ++ (h.things.drop (Greedy.least h.things + 1))).length c15_11) (cs' := [.int .i64 h.room, .int .i64 ((h.things[Greedy.least h.things]).worth), .slice a15_11 ((h.things.take (Greedy.least h.things)) ++ (h.things.drop (Greedy.least h.things + 1))).length c15_11]) rfl rfl rfl sz37 rfl rfl rfl ?_
              refine o_nil ?_
              refine h_next (fun _ hw => HeapIs.drop hw (List.Sublist.cons _ (List.Sublist.cons_cons _ (List.Sublist.cons _ (List.Sublist.cons_cons _ (List.Sublist.cons_cons _ (List.Sublist.cons_cons _ (List.Sublist.cons_cons _ (List.Sublist.cons_cons _ (List.Sublist.slnil)))))))))) ?_
              refine h_done (by kernel_rfl) ?_
              refine q_kont hK16 (a15_11, c15_11, S15_11) (Sub.cons rfl (Sub.cons rfl (Sub.cons rfl (Sub.cons rfl (Sub.nil _))))) (fun _ hw => HeapIs.pick hw [0, 1, 2, 3, 4, 5, 6, 7] (by decide) rfl)
          · refine o_pure (p_load (i := 1) (v := .slice a4_7 h.things.length c4_7) rfl rfl sh37 rfl) rfl rfl rfl ?_
            refine o_nil ?_
            refine h_next (fun _ hw => HeapIs.drop hw (List.Sublist.cons_cons _ (List.Sublist.cons _ (List.Sublist.cons_cons _ (List.Sublist.cons_cons _ (List.Sublist.cons_cons _ (List.Sublist.cons_cons _ (List.Sublist.cons_cons _ (List.Sublist.slnil))))))))) ?_
            refine h_take (i := 10) (ls := #[false, true, false, true, false, false, true, true, true, true, true, false, false, false]) rfl (by kernel_rfl) (by kernel_rfl) (by kernel_rfl) (fun _ _ _ h => h) (p_sliceL (L := h.things) (T := tItem) (l := ((Greedy.least h.things : Int) + 1)) rfl rfl Try.underlying37 sz41 (by omega) (by omega) (rd_own (i := 1) rfl)) rfl rfl rfl (fun _ hw => HeapIs.drop hw (List.Sublist.cons_cons _ (List.Sublist.cons _ (List.Sublist.cons_cons _ (List.Sublist.cons_cons _ (List.Sublist.cons_cons _ (List.Sublist.cons_cons _ (List.Sublist.cons_cons _ (List.Sublist.slnil))))))))) rfl ?_
            refine h_two (i := 0) (j := 2) (ls := #[true, true, false, true, false, false, true, true, true, true, true, false, false, false]) (ls' := #[false, true, true, true, false, false, true, true, true, true, true, false, false, false]) (by kernel_rfl) rfl rfl rfl rfl ?_ ?_
            · refine o_buildSlice (m := 0) (T := tItem) (L := []) (vs := []) rfl rfl rfl rfl Try.underlying37 sz41 (by decide) ze41 rfl (by decide) rfl (fun S15_0 a15_0 => ?_)
              refine o_nil ?_
              refine h_next (fun _ hw => HeapIs.drop hw (List.Sublist.cons _ (List.Sublist.cons_cons _ (List.Sublist.cons _ (List.Sublist.cons_cons _ (List.Sublist.cons_cons _ (List.Sublist.cons_cons _ (List.Sublist.cons_cons _ (List.Sublist.cons_cons _ (List.Sublist.slnil)))))))))) ?_
              refine h_one (i := 2) (ls := #[true, true, true, true, false, false, true, true, true, true, true, false, false, false]) (by kernel_rfl) rfl rfl ?_
              refine o_pure (p_load (i := 2) (v := .slice a4_7 h.things.length c4_7) rfl rfl sh37 rfl) rfl rfl rfl ?_
              refine o_nil ?_
              refine h_next (fun _ hw => HeapIs.drop hw (List.Sublist.cons _ (List.Sublist.cons_cons _ (List.Sublist.cons _ (List.Sublist.cons_cons _ (List.Sublist.cons_cons _ (List.Sublist.cons_cons _ (List.Sublist.cons_cons _ (List.Sublist.cons_cons _ (List.Sublist.slnil)))))))))) ?_
              refine h_take (i := 4) (ls := #[true, true, true, true, true, false, true, true, true, true, true, false, false, false]) rfl (by kernel_rfl) (by kernel_rfl) (by kernel_rfl) (fun _ _ _ h => h) (p_sliceH (L := h.things) (T := tItem) (h := (Greedy.least h.things : Int)) rfl rfl Try.underlying37 sz41 (by omega) (by omega) (rd_own (i := 1) rfl)) rfl rfl rfl (fun _ hw => HeapIs.drop hw (List.Sublist.cons _ (List.Sublist.cons_cons _ (List.Sublist.cons _ (List.Sublist.cons_cons _ (List.Sublist.cons_cons _ (List.Sublist.cons_cons _ (List.Sublist.cons_cons _ (List.Sublist.cons_cons _ (List.Sublist.slnil)))))))))) rfl ?_
              refine h_one (i := 5) (ls := #[true, true, true, true, true, true, true, true, true, true, true, false, false, false]) (by kernel_rfl) rfl rfl ?_
              refine o_append (i := 0) (L := []) (M := (h.things.take (Greedy.least h.things))) (T := tItem) rfl rfl rfl (rd_takeC (hi := Greedy.least h.things) (rd_own (i := 3) rfl) (by omega)) Try.underlying37 Try.underlying37 (by intro k h; cases h) el41 (by intro z; simp [tItem, one1]) (by decide) (by first | omega | (simp only [List.length_cons, List.length_nil]; omega) | (simp only [List.length_append, List.length_cons, List.length_nil, List.length_take, List.length_drop]; omega)) rfl (fun a15_5 c15_5 S15_5 => ?_)
              refine o_nil ?_
              refine h_next (fun _ hw => HeapIs.drop hw (List.Sublist.cons _ (List.Sublist.cons_cons _ (List.Sublist.cons _ (List.Sublist.cons_cons _ (List.Sublist.cons_cons _ (List.Sublist.cons_cons _ (List.Sublist.cons_cons _ (List.Sublist.cons_cons _ (List.Sublist.slnil)))))))))) ?_
              refine h_one (i := 11) (ls := #[true, true, true, true, true, true, true, true, true, true, true, true, false, false]) (by kernel_rfl) rfl rfl ?_
              refine o_append (i := 0) (L := (h.things.take (Greedy.least h.things))) (M := (h.things.drop (Greedy.least h.things + 1))) (T := tItem) rfl rfl rfl (rd_dropC (l := (Greedy.least h.things + 1)) (rd_own (i := 3) rfl) (by omega)) Try.underlying37 Try.underlying37 (by intro k h; cases h) el41 (by intro z; simp [tItem, one1]) (by decide) (by first | omega | (simp only [List.length_cons, List.length_nil]; omega) | (simp only [List.length_append, List.length_cons, List.length_nil, List.length_take, List.length_drop]; omega)) rfl (fun a15_11 c15_11 S15_11 => ?_)
              refine o_nil ?_
              refine h_next (fun _ hw => HeapIs.drop hw (List.Sublist.cons _ (List.Sublist.cons_cons _ (List.Sublist.cons _ (List.Sublist.cons_cons _ (List.Sublist.cons_cons _ (List.Sublist.cons_cons _ (List.Sublist.cons_cons _ (List.Sublist.cons_cons _ (List.Sublist.slnil)))))))))) ?_
              refine h_take (i := 12) (ls := #[true, true, true, true, true, true, true, true, true, true, true, true, true, false]) rfl (by kernel_rfl) (by kernel_rfl) (by kernel_rfl) (fun _ _ _ h => h) (p_fieldAddr (B := B4_9) (j := 0) (j' := 2) rfl fo39_2 rfl) rfl rfl rfl (fun _ hw => HeapIs.drop hw (List.Sublist.cons _ (List.Sublist.cons_cons _ (List.Sublist.cons _ (List.Sublist.cons_cons _ (List.Sublist.cons_cons _ (List.Sublist.cons_cons _ (List.Sublist.cons_cons _ (List.Sublist.cons_cons _ (List.Sublist.slnil)))))))))) rfl ?_
              refine h_one (i := 13) (ls := #[true, true, true, true, true, true, true, true, true, true, true, true, true, true]) (by kernel_rfl) rfl rfl ?_
              refine o_store (i := 2) (v := .slice a15_11 ((h.things.take (Greedy.least h.things)) ++ (h.things.drop (Greedy.least h.things + 1))).length c15_11) (cs' := [.int .i64 h.room, .int .i64 ((h.things[Greedy.least h.things]).worth), .slice a15_11 ((h.things.take (Greedy.least h.things)) ++ (h.things.drop (Greedy.least h.things + 1))).length c15_11]) rfl rfl rfl sz37 rfl rfl rfl ?_
              refine o_nil ?_
              refine h_next (fun _ hw => HeapIs.drop hw (List.Sublist.cons _ (List.Sublist.cons_cons _ (List.Sublist.cons _ (List.Sublist.cons_cons _ (List.Sublist.cons_cons _ (List.Sublist.cons_cons _ (List.Sublist.cons_cons _ (List.Sublist.cons_cons _ (List.Sublist.slnil)))))))))) ?_
              refine h_done (by kernel_rfl) ?_
              refine q_kont hK16 (a15_11, c15_11, S15_11) (Sub.cons rfl (Sub.cons rfl (Sub.cons rfl (Sub.cons rfl (Sub.nil _))))) (fun _ hw => HeapIs.pick hw [0, 1, 2, 3, 4, 5, 6, 7] (by decide) rfl)
            · refine o_pure (p_load (i := 1) (v := .slice a4_7 h.things.length c4_7) rfl rfl sh37 rfl) rfl rfl rfl ?_
              refine o_nil ?_
              refine h_next (fun _ hw => HeapIs.drop hw (List.Sublist.cons_cons _ (List.Sublist.cons _ (List.Sublist.cons_cons _ (List.Sublist.cons_cons _ (List.Sublist.cons_cons _ (List.Sublist.cons_cons _ (List.Sublist.cons_cons _ (List.Sublist.slnil))))))))) ?_
              refine h_take (i := 4) (ls := #[false, true, true, true, true, false, true, true, true, true, true, false, false, false]) rfl (by kernel_rfl) (by kernel_rfl) (by kernel_rfl) (fun _ _ _ h => h) (p_sliceH (L := h.things) (T := tItem) (h := (Greedy.least h.things : Int)) rfl rfl Try.underlying37 sz41 (by omega) (by omega) (rd_own (i := 1) rfl)) rfl rfl rfl (fun _ hw => HeapIs.drop hw (List.Sublist.cons_cons _ (List.Sublist.cons _ (List.Sublist.cons_cons _ (List.Sublist.cons_cons _ (List.Sublist.cons_cons _ (List.Sublist.cons_cons _ (List.Sublist.cons_cons _ (List.Sublist.slnil))))))))) rfl ?_
              refine h_one (i := 0) (ls := #[true, true, true, true, true, false, true, true, true, true, true, false, false, false]) (by kernel_rfl) rfl rfl ?_
              refine o_buildSlice (m := 0) (T := tItem) (L := []) (vs := []) rfl rfl rfl rfl Try.underlying37 sz41 (by decide) ze41 rfl (by decide) rfl (fun S15_0 a15_0 => ?_)
              refine o_nil ?_
              refine h_next (fun _ hw => HeapIs.drop hw (List.Sublist.cons _ (List.Sublist.cons_cons _ (List.Sublist.cons _ (List.Sublist.cons_cons _ (List.Sublist.cons_cons _ (List.Sublist.cons_cons _ (List.Sublist.cons_cons _ (List.Sublist.cons_cons _ (List.Sublist.slnil)))))))))) ?_
              refine h_one (i := 5) (ls := #[true, true, true, true, true, true, true, true, true, true, true, false, false, false]) (by kernel_rfl) rfl rfl ?_
              refine o_append (i := 0) (L := []) (M := (h.things.take (Greedy.least h.things))) (T := tItem) rfl rfl rfl (rd_takeC (hi := Greedy.least h.things) (rd_own (i := 3) rfl) (by omega)) Try.underlying37 Try.underlying37 (by intro k h; cases h) el41 (by intro z; simp [tItem, one1]) (by decide) (by first | omega | (simp only [List.length_cons, List.length_nil]; omega) | (simp only [List.length_append, List.length_cons, List.length_nil, List.length_take, List.length_drop]; omega)) rfl (fun a15_5 c15_5 S15_5 => ?_)
              refine o_nil ?_
              refine h_next (fun _ hw => HeapIs.drop hw (List.Sublist.cons _ (List.Sublist.cons_cons _ (List.Sublist.cons _ (List.Sublist.cons_cons _ (List.Sublist.cons_cons _ (List.Sublist.cons_cons _ (List.Sublist.cons_cons _ (List.Sublist.cons_cons _ (List.Sublist.slnil)))))))))) ?_
              refine h_one (i := 11) (ls := #[true, true, true, true, true, true, true, true, true, true, true, true, false, false]) (by kernel_rfl) rfl rfl ?_
              refine o_append (i := 0) (L := (h.things.take (Greedy.least h.things))) (M := (h.things.drop (Greedy.least h.things + 1))) (T := tItem) rfl rfl rfl (rd_dropC (l := (Greedy.least h.things + 1)) (rd_own (i := 3) rfl) (by omega)) Try.underlying37 Try.underlying37 (by intro k h; cases h) el41 (by intro z; simp [tItem, one1]) (by decide) (by first | omega | (simp only [List.length_cons, List.length_nil]; omega) | (simp only [List.length_append, List.length_cons, List.length_nil, List.length_take, List.length_drop]; omega)) rfl (fun a15_11 c15_11 S15_11 => ?_)
              refine o_nil ?_
              refine h_next (fun _ hw => HeapIs.drop hw (List.Sublist.cons _ (List.Sublist.cons_cons _ (List.Sublist.cons _ (List.Sublist.cons_cons _ (List.Sublist.cons_cons _ (List.Sublist.cons_cons _ (List.Sublist.cons_cons _ (List.Sublist.cons_cons _ (List.Sublist.slnil)))))))))) ?_
              refine h_take (i := 12) (ls := #[true, true, true, true, true, true, true, true, true, true, true, true, true, false]) rfl (by kernel_rfl) (by kernel_rfl) (by kernel_rfl) (fun _ _ _ h => h) (p_fieldAddr (B := B4_9) (j := 0) (j' := 2) rfl fo39_2 rfl) rfl rfl rfl (fun _ hw => HeapIs.drop hw (List.Sublist.cons _ (List.Sublist.cons_cons _ (List.Sublist.cons _ (List.Sublist.cons_cons _ (List.Sublist.cons_cons _ (List.Sublist.cons_cons _ (List.Sublist.cons_cons _ (List.Sublist.cons_cons _ (List.Sublist.slnil)))))))))) rfl ?_
              refine h_one (i := 13) (ls := #[true, true, true, true, true, true, true, true, true, true, true, true, true, true]) (by kernel_rfl) rfl rfl ?_
              refine o_store (i := 2) (v := .slice a15_11 ((h.things.take (Greedy.least h.things)) ++ (h.things.drop (Greedy.least h.things + 1))).length c15_11) (cs' := [.int .i64 h.room, .int .i64 ((h.things[Greedy.least h.things]).worth), .slice a15_11 ((h.things.take (Greedy.least h.things)) ++ (h.things.drop (Greedy.least h.things + 1))).length c15_11]) rfl rfl rfl sz37 rfl rfl rfl ?_
              refine o_nil ?_
              refine h_next (fun _ hw => HeapIs.drop hw (List.Sublist.cons _ (List.Sublist.cons_cons _ (List.Sublist.cons _ (List.Sublist.cons_cons _ (List.Sublist.cons_cons _ (List.Sublist.cons_cons _ (List.Sublist.cons_cons _ (List.Sublist.cons_cons _ (List.Sublist.slnil)))))))))) ?_
              refine h_done (by kernel_rfl) ?_
              refine q_kont hK16 (a15_11, c15_11, S15_11) (Sub.cons rfl (Sub.cons rfl (Sub.cons rfl (Sub.cons rfl (Sub.nil _))))) (fun _ hw => HeapIs.pick hw [0, 1, 2, 3, 4, 5, 6, 7] (by decide) rfl)
        rintro ⟨a15_11, c15_11, S15_11⟩
        show SQ _ 123 w0 _ _ [(3, .pointer (some ⟨B2, 0, none⟩)), (4, .pointer (some ⟨B3, 0, none⟩)), (7, .pointer (some ⟨B4_9, 0, none⟩)), (10, .pointer (some ⟨B14, 0, none⟩))] [own tItem S15_11 a15_11 c15_11 ((h.things.take (Greedy.least h.things)) ++ (h.things.drop (Greedy.least h.things + 1))), box B14 [.int .i64 ((h.things[Greedy.least h.things]).key), .int .i64 ((h.things[Greedy.least h.things]).size), .int .i64 ((h.things[Greedy.least h.things]).cost), .int .i64 ((h.things[Greedy.least h.things]).worth)] 41, box B4_9 [.int .i64 h.room, .int .i64 ((h.things[Greedy.least h.things]).worth), .slice a15_11 ((h.things.take (Greedy.least h.things)) ++ (h.things.drop (Greedy.least h.things + 1))).length c15_11] 39, own tItem S4_7 a4_7 c4_7 h.things, box B3 [.int .i64 0, .int .i64 0, .slice none 0 0] 39, box B2 [.int .i64 t.key, .int .i64 t.size, .int .i64 t.cost, .int .i64 t.worth] 41, box B1 [.int .i64 h.room, .int .i64 h.floor, .slice ah_0 h.things.length ch_0] 39, base w0]
        refine q_know (fun w hw => own_len (i := 0) (T := tItem) hw rfl) (fun hlr17 => ?_)
        refine q_then ?_
        refine c_seq ?_
        refine c_region ?_
        refine o_pure (p_load_agg (i := 2) (vs := [.int .i64 h.room, .int .i64 ((h.things[Greedy.least h.things]).worth), .slice a15_11 ((h.things.take (Greedy.least h.things)) ++ (h.things.drop (Greedy.least h.things + 1))).length c15_11]) rfl rfl sh39 rfl rfl) rfl rfl rfl ?_
        refine o_pure (p_load_agg (i := 5) (vs := [.int .i64 t.key, .int .i64 t.size, .int .i64 t.cost, .int .i64 t.worth]) rfl rfl sh41 rfl rfl) rfl rfl rfl ?_
        refine o_callM rfl (IH (⟨h.room, (h.things[Greedy.least h.things]).worth, ((h.things.take (Greedy.least h.things)) ++ (h.things.drop (Greedy.least h.things + 1)))⟩ : DGreedy) a15_11 c15_11 t (by first | assumption | exact hy1.less' hll) (by simp only [List.length_append, List.length_take, List.length_drop]; omega)) hf29 (fun w hw => (rd_own (i := 0) rfl) w hw) rfl (fun _ _ _ _ ha hA => ⟨SlR.agree ha hA.1, SlR.agree ha hA.2⟩) ?_
        rintro ⟨a20, c21, a22, c23⟩ S18
        refine o_know (fun w hw => (hw.at (i := 0) rfl).here.1.2.1) (fun hlr24 => ?_)
        refine o_know (fun w hw => (hw.at (i := 0) rfl).here.2.2.1) (fun hlr25 => ?_)
        refine o_pure (p_move (v := .tuple #[.agg #[.int .i64 (((Greedy.touch (⟨h.room, (h.things[Greedy.least h.things]).worth, ((h.things.take (Greedy.least h.things)) ++ (h.things.drop (Greedy.least h.things + 1)))⟩ : DGreedy) t).1).room), .int .i64 (((Greedy.touch (⟨h.room, (h.things[Greedy.least h.things]).worth, ((h.things.take (Greedy.least h.things)) ++ (h.things.drop (Greedy.least h.things + 1)))⟩ : DGreedy) t).1).floor), .slice a20 (((Greedy.touch (⟨h.room, (h.things[Greedy.least h.things]).worth, ((h.things.take (Greedy.least h.things)) ++ (h.things.drop (Greedy.least h.things + 1)))⟩ : DGreedy) t).1).things).length c21], .bool ((Greedy.touch (⟨h.room, (h.things[Greedy.least h.things]).worth, ((h.things.take (Greedy.least h.things)) ++ (h.things.drop (Greedy.least h.things + 1)))⟩ : DGreedy) t).2.1), .slice a22 ((Greedy.touch (⟨h.room, (h.things[Greedy.least h.things]).worth, ((h.things.take (Greedy.least h.things)) ++ (h.things.drop (Greedy.least h.things + 1)))⟩ : DGreedy) t).2.2).length c23]) rfl) rfl rfl rfl ?_
        refine o_pure (p_extract (vs := [.agg #[.int .i64 (((Greedy.touch (⟨h.room, (h.things[Greedy.least h.things]).worth, ((h.things.take (Greedy.least h.things)) ++ (h.things.drop (Greedy.least h.things + 1)))⟩ : DGreedy) t).1).room), .int .i64 (((Greedy.touch (⟨h.room, (h.things[Greedy.least h.things]).worth, ((h.things.take (Greedy.least h.things)) ++ (h.things.drop (Greedy.least h.things + 1)))⟩ : DGreedy) t).1).floor), .slice a20 (((Greedy.touch (⟨h.room, (h.things[Greedy.least h.things]).worth, ((h.things.take (Greedy.least h.things)) ++ (h.things.drop (Greedy.least h.things + 1)))⟩ : DGreedy) t).1).things).length c21], .bool ((Greedy.touch (⟨h.room, (h.things[Greedy.least h.things]).worth, ((h.things.take (Greedy.least h.things)) ++ (h.things.drop (Greedy.least h.things + 1)))⟩ : DGreedy) t).2.1), .slice a22 ((Greedy.touch (⟨h.room, (h.things[Greedy.least h.things]).worth, ((h.things.take (Greedy.least h.things)) ++ (h.things.drop (Greedy.least h.things + 1)))⟩ : DGreedy) t).2.2).length c23]) (v := .agg #[.int .i64 (((Greedy.touch (⟨h.room, (h.things[Greedy.least h.things]).worth, ((h.things.take (Greedy.least h.things)) ++ (h.things.drop (Greedy.least h.things + 1)))⟩ : DGreedy) t).1).room), .int .i64 (((Greedy.touch (⟨h.room, (h.things[Greedy.least h.things]).worth, ((h.things.take (Greedy.least h.things)) ++ (h.things.drop (Greedy.least h.things + 1)))⟩ : DGreedy) t).1).floor), .slice a20 (((Greedy.touch (⟨h.room, (h.things[Greedy.least h.things]).worth, ((h.things.take (Greedy.least h.things)) ++ (h.things.drop (Greedy.least h.things + 1)))⟩ : DGreedy) t).1).things).length c21]) rfl rfl) rfl rfl rfl ?_
        refine o_pure (p_extract (vs := [.agg #[.int .i64 (((Greedy.touch (⟨h.room, (h.things[Greedy.least h.things]).worth, ((h.things.take (Greedy.least h.things)) ++ (h.things.drop (Greedy.least h.things + 1)))⟩ : DGreedy) t).1).room), .int .i64 (((Greedy.touch (⟨h.room, (h.things[Greedy.least h.things]).worth, ((h.things.take (Greedy.least h.things)) ++ (h.things.drop (Greedy.least h.things + 1)))⟩ : DGreedy) t).1).floor), .slice a20 (((Greedy.touch (⟨h.room, (h.things[Greedy.least h.things]).worth, ((h.things.take (Greedy.least h.things)) ++ (h.things.drop (Greedy.least h.things + 1)))⟩ : DGreedy) t).1).things).length c21], .bool ((Greedy.touch (⟨h.room, (h.things[Greedy.least h.things]).worth, ((h.things.take (Greedy.least h.things)) ++ (h.things.drop (Greedy.least h.things + 1)))⟩ : DGreedy) t).2.1), .slice a22 ((Greedy.touch (⟨h.room, (h.things[Greedy.least h.things]).worth, ((h.things.take (Greedy.least h.things)) ++ (h.things.drop (Greedy.least h.things + 1)))⟩ : DGreedy) t).2.2).length c23]) (v := .bool ((Greedy.touch (⟨h.room, (h.things[Greedy.least h.things]).worth, ((h.things.take (Greedy.least h.things)) ++ (h.things.drop (Greedy.least h.things + 1)))⟩ : DGreedy) t).2.1)) rfl rfl) rfl rfl rfl ?_
        refine o_pure (p_extract (vs := [.agg #[.int .i64 (((Greedy.touch (⟨h.room, (h.things[Greedy.least h.things]).worth, ((h.things.take (Greedy.least h.things)) ++ (h.things.drop (Greedy.least h.things + 1)))⟩ : DGreedy) t).1).room), .int .i64 (((Greedy.touch (⟨h.room, (h.things[Greedy.least h.things]).worth, ((h.things.take (Greedy.least h.things)) ++ (h.things.drop (Greedy.least h.things + 1)))⟩ : DGreedy) t).1).floor), .slice a20 (((Greedy.touch (⟨h.room, (h.things[Greedy.least h.things]).worth, ((h.things.take (Greedy.least h.things)) ++ (h.things.drop (Greedy.least h.things + 1)))⟩ : DGreedy) t).1).things).length c21], .bool ((Greedy.touch (⟨h.room, (h.things[Greedy.least h.things]).worth, ((h.things.take (Greedy.least h.things)) ++ (h.things.drop (Greedy.least h.things + 1)))⟩ : DGreedy) t).2.1), .slice a22 ((Greedy.touch (⟨h.room, (h.things[Greedy.least h.things]).worth, ((h.things.take (Greedy.least h.things)) ++ (h.things.drop (Greedy.least h.things + 1)))⟩ : DGreedy) t).2.2).length c23]) (v := .slice a22 ((Greedy.touch (⟨h.room, (h.things[Greedy.least h.things]).worth, ((h.things.take (Greedy.least h.things)) ++ (h.things.drop (Greedy.least h.things + 1)))⟩ : DGreedy) t).2.2).length c23) rfl rfl) rfl rfl rfl ?_
        refine o_alloc ze39 rfl (fun B26 => ?_)
        refine o_storeN (i := 0) (vs := [.int .i64 (((Greedy.touch (⟨h.room, (h.things[Greedy.least h.things]).worth, ((h.things.take (Greedy.least h.things)) ++ (h.things.drop (Greedy.least h.things + 1)))⟩ : DGreedy) t).1).room), .int .i64 (((Greedy.touch (⟨h.room, (h.things[Greedy.least h.things]).worth, ((h.things.take (Greedy.least h.things)) ++ (h.things.drop (Greedy.least h.things + 1)))⟩ : DGreedy) t).1).floor), .slice a20 (((Greedy.touch (⟨h.room, (h.things[Greedy.least h.things]).worth, ((h.things.take (Greedy.least h.things)) ++ (h.things.drop (Greedy.least h.things + 1)))⟩ : DGreedy) t).1).things).length c21]) (cs' := [.int .i64 (((Greedy.touch (⟨h.room, (h.things[Greedy.least h.things]).worth, ((h.things.take (Greedy.least h.things)) ++ (h.things.drop (Greedy.least h.things + 1)))⟩ : DGreedy) t).1).room), .int .i64 (((Greedy.touch (⟨h.room, (h.things[Greedy.least h.things]).worth, ((h.things.take (Greedy.least h.things)) ++ (h.things.drop (Greedy.least h.things + 1)))⟩ : DGreedy) t).1).floor), .slice a20 (((Greedy.touch (⟨h.room, (h.things[Greedy.least h.things]).worth, ((h.things.take (Greedy.least h.things)) ++ (h.things.drop (Greedy.least h.things + 1)))⟩ : DGreedy) t).1).things).length c21]) rfl rfl rfl sz39 rfl rfl rfl rfl ?_
        refine o_pure (p_assign (v := .bool ((Greedy.touch (⟨h.room, (h.things[Greedy.least h.things]).worth, ((h.things.take (Greedy.least h.things)) ++ (h.things.drop (Greedy.least h.things + 1)))⟩ : DGreedy) t).2.1)) rfl) rfl rfl rfl ?_
        refine o_pure (p_assign (v := .slice a22 ((Greedy.touch (⟨h.room, (h.things[Greedy.least h.things]).worth, ((h.things.take (Greedy.least h.things)) ++ (h.things.drop (Greedy.least h.things + 1)))⟩ : DGreedy) t).2.2).length c23) rfl) rfl rfl rfl ?_
        refine o_nil ?_
        refine q_then ?_
        refine c_seq ?_
        refine c_held hmix [box B26 [.int .i64 (((Greedy.touch (⟨h.room, (h.things[Greedy.least h.things]).worth, ((h.things.take (Greedy.least h.things)) ++ (h.things.drop (Greedy.least h.things + 1)))⟩ : DGreedy) t).1).room), .int .i64 (((Greedy.touch (⟨h.room, (h.things[Greedy.least h.things]).worth, ((h.things.take (Greedy.least h.things)) ++ (h.things.drop (Greedy.least h.things + 1)))⟩ : DGreedy) t).1).floor), .slice a20 (((Greedy.touch (⟨h.room, (h.things[Greedy.least h.things]).worth, ((h.things.take (Greedy.least h.things)) ++ (h.things.drop (Greedy.least h.things + 1)))⟩ : DGreedy) t).1).things).length c21] 39, ⟨S18, fun w => SlR tItem S18 w a20 c21 (((Greedy.touch (⟨h.room, (h.things[Greedy.least h.things]).worth, ((h.things.take (Greedy.least h.things)) ++ (h.things.drop (Greedy.least h.things + 1)))⟩ : DGreedy) t).1).things) ∧ SlR tInt S18 w a22 c23 ((Greedy.touch (⟨h.room, (h.things[Greedy.least h.things]).worth, ((h.things.take (Greedy.least h.things)) ++ (h.things.drop (Greedy.least h.things + 1)))⟩ : DGreedy) t).2.2)⟩, own tItem S15_11 a15_11 c15_11 ((h.things.take (Greedy.least h.things)) ++ (h.things.drop (Greedy.least h.things + 1))), box B14 [.int .i64 ((h.things[Greedy.least h.things]).key), .int .i64 ((h.things[Greedy.least h.things]).size), .int .i64 ((h.things[Greedy.least h.things]).cost), .int .i64 ((h.things[Greedy.least h.things]).worth)] 41, box B4_9 [.int .i64 h.room, .int .i64 ((h.things[Greedy.least h.things]).worth), .slice a15_11 ((h.things.take (Greedy.least h.things)) ++ (h.things.drop (Greedy.least h.things + 1))).length c15_11] 39, own tItem S4_7 a4_7 c4_7 h.things, box B2 [.int .i64 t.key, .int .i64 t.size, .int .i64 t.cost, .int .i64 t.worth] 41, box B1 [.int .i64 h.room, .int .i64 h.floor, .slice ah_0 h.things.length ch_0] 39, base w0] rfl rfl ?_
        refine h_take (i := 0) (ls := #[true, false, false, false, false, false, false, false, false]) rfl (by kernel_rfl) (by kernel_rfl) (by kernel_rfl) (fun _ _ _ h => h) (p_load_agg (i := 0) (vs := [.int .i64 (((Greedy.touch (⟨h.room, (h.things[Greedy.least h.things]).worth, ((h.things.take (Greedy.least h.things)) ++ (h.things.drop (Greedy.least h.things + 1)))⟩ : DGreedy) t).1).room), .int .i64 (((Greedy.touch (⟨h.room, (h.things[Greedy.least h.things]).worth, ((h.things.take (Greedy.least h.things)) ++ (h.things.drop (Greedy.least h.things + 1)))⟩ : DGreedy) t).1).floor), .slice a20 (((Greedy.touch (⟨h.room, (h.things[Greedy.least h.things]).worth, ((h.things.take (Greedy.least h.things)) ++ (h.things.drop (Greedy.least h.things + 1)))⟩ : DGreedy) t).1).things).length c21]) rfl rfl sh39 rfl rfl) rfl rfl rfl (fun _ hw => HeapIs.drop hw (List.Sublist.cons_cons _ (List.Sublist.cons_cons _ (List.Sublist.cons_cons _ (List.Sublist.cons_cons _ (List.Sublist.cons_cons _ (List.Sublist.cons_cons _ (List.Sublist.cons _ (List.Sublist.cons_cons _ (List.Sublist.cons_cons _ (List.Sublist.cons_cons _ (List.Sublist.slnil)))))))))))) rfl ?_
        refine h_take (i := 1) (ls := #[true, true, false, false, false, false, false, false, false]) rfl (by kernel_rfl) (by kernel_rfl) (by kernel_rfl) (fun _ _ _ h => h) (p_fieldAddr (B := B14) (j := 0) (j' := 0) rfl fo41_0 rfl) rfl rfl rfl (fun _ hw => HeapIs.drop hw (List.Sublist.cons_cons _ (List.Sublist.cons_cons _ (List.Sublist.cons_cons _ (List.Sublist.cons_cons _ (List.Sublist.cons_cons _ (List.Sublist.cons_cons _ (List.Sublist.cons _ (List.Sublist.cons_cons _ (List.Sublist.cons_cons _ (List.Sublist.cons_cons _ (List.Sublist.slnil)))))))))))) rfl ?_
        refine h_take (i := 2) (ls := #[true, true, true, false, false, false, false, false, false]) rfl (by kernel_rfl) (by kernel_rfl) (by kernel_rfl) (fun _ _ _ h => h) (p_load (i := 3) (v := .int .i64 ((h.things[Greedy.least h.things]).key)) rfl rfl sh3 rfl) rfl rfl rfl (fun _ hw => HeapIs.drop hw (List.Sublist.cons_cons _ (List.Sublist.cons_cons _ (List.Sublist.cons_cons _ (List.Sublist.cons_cons _ (List.Sublist.cons_cons _ (List.Sublist.cons_cons _ (List.Sublist.cons _ (List.Sublist.cons_cons _ (List.Sublist.cons_cons _ (List.Sublist.cons_cons _ (List.Sublist.slnil)))))))))))) rfl ?_
        refine h_take (i := 4) (ls := #[true, true, true, false, true, false, false, false, false]) rfl (by kernel_rfl) (by kernel_rfl) (by kernel_rfl) (fun _ _ _ h => h) (p_move (v := .slice a22 ((Greedy.touch (⟨h.room, (h.things[Greedy.least h.things]).worth, ((h.things.take (Greedy.least h.things)) ++ (h.things.drop (Greedy.least h.things + 1)))⟩ : DGreedy) t).2.2).length c23) rfl) rfl rfl rfl (fun _ hw => HeapIs.drop hw (List.Sublist.cons_cons _ (List.Sublist.cons_cons _ (List.Sublist.cons_cons _ (List.Sublist.cons_cons _ (List.Sublist.cons_cons _ (List.Sublist.cons_cons _ (List.Sublist.cons _ (List.Sublist.cons_cons _ (List.Sublist.cons_cons _ (List.Sublist.cons_cons _ (List.Sublist.slnil)))))))))))) rfl ?_
        refine h_one (i := 3) (ls := #[true, true, true, true, true, false, false, false, false]) (by kernel_rfl) rfl rfl ?_
        refine o_buildSlice (m := 1) (T := tInt) (L := [(h.things[Greedy.least h.things]).key]) (vs := [.int .i64 ((h.things[Greedy.least h.things]).key)]) rfl rfl rfl rfl Try.underlying22 sz3 (by decide) ze3 rfl (by decide) rfl (fun S27_3 a27_3 => ?_)
        refine o_nil ?_
        refine h_next (fun _ hw => HeapIs.drop hw (List.Sublist.cons _ (List.Sublist.cons_cons _ (List.Sublist.cons_cons _ (List.Sublist.cons_cons _ (List.Sublist.cons_cons _ (List.Sublist.cons_cons _ (List.Sublist.cons_cons _ (List.Sublist.cons _ (List.Sublist.cons_cons _ (List.Sublist.cons_cons _ (List.Sublist.cons_cons _ (List.Sublist.slnil))))))))))))) ?_
        refine h_one (i := 5) (ls := #[true, true, true, true, true, true, false, false, false]) (by kernel_rfl) rfl rfl ?_
        refine o_append (i := 0) (L := [(h.things[Greedy.least h.things]).key]) (M := ((Greedy.touch (⟨h.room, (h.things[Greedy.least h.things]).worth, ((h.things.take (Greedy.least h.things)) ++ (h.things.drop (Greedy.least h.things + 1)))⟩ : DGreedy) t).2.2)) (T := tInt) rfl rfl rfl (rd_ent (i := 2) rfl (fun w h => h.2)) Try.underlying22 Try.underlying22 (by intro k h; cases h) el3 (by intro z; simp [tInt, one1]) (by decide) (by first | omega | (simp only [List.length_cons, List.length_nil]; omega) | (simp only [List.length_append, List.length_cons, List.length_nil, List.length_take, List.length_drop]; omega)) rfl (fun a27_5 c27_5 S27_5 => ?_)
        refine o_nil ?_
        refine h_next (fun _ hw => HeapIs.drop hw (List.Sublist.cons _ (List.Sublist.cons_cons _ (List.Sublist.cons_cons _ (List.Sublist.cons_cons _ (List.Sublist.cons_cons _ (List.Sublist.cons_cons _ (List.Sublist.cons_cons _ (List.Sublist.cons _ (List.Sublist.cons_cons _ (List.Sublist.cons_cons _ (List.Sublist.cons_cons _ (List.Sublist.slnil))))))))))))) ?_
        refine h_one (i := 6) (ls := #[true, true, true, true, true, true, true, false, false]) (by kernel_rfl) rfl rfl ?_
        refine o_storeN (i := 7) (vs := [.int .i64 (((Greedy.touch (⟨h.room, (h.things[Greedy.least h.things]).worth, ((h.things.take (Greedy.least h.things)) ++ (h.things.drop (Greedy.least h.things + 1)))⟩ : DGreedy) t).1).room), .int .i64 (((Greedy.touch (⟨h.room, (h.things[Greedy.least h.things]).worth, ((h.things.take (Greedy.least h.things)) ++ (h.things.drop (Greedy.least h.things + 1)))⟩ : DGreedy) t).1).floor), .slice a20 (((Greedy.touch (⟨h.room, (h.things[Greedy.least h.things]).worth, ((h.things.take (Greedy.least h.things)) ++ (h.things.drop (Greedy.least h.things + 1)))⟩ : DGreedy) t).1).things).length c21]) (cs' := [.int .i64 (((Greedy.touch (⟨h.room, (h.things[Greedy.least h.things]).worth, ((h.things.take (Greedy.least h.things)) ++ (h.things.drop (Greedy.least h.things + 1)))⟩ : DGreedy) t).1).room), .int .i64 (((Greedy.touch (⟨h.room, (h.things[Greedy.least h.things]).worth, ((h.things.take (Greedy.least h.things)) ++ (h.things.drop (Greedy.least h.things + 1)))⟩ : DGreedy) t).1).floor), .slice a20 (((Greedy.touch (⟨h.room, (h.things[Greedy.least h.things]).worth, ((h.things.take (Greedy.least h.things)) ++ (h.things.drop (Greedy.least h.things + 1)))⟩ : DGreedy) t).1).things).length c21]) rfl rfl rfl sz39 rfl rfl rfl rfl ?_
        refine o_nil ?_
        refine h_next (fun _ hw => HeapIs.drop hw (List.Sublist.cons _ (List.Sublist.cons_cons _ (List.Sublist.cons_cons _ (List.Sublist.cons_cons _ (List.Sublist.cons_cons _ (List.Sublist.cons_cons _ (List.Sublist.cons_cons _ (List.Sublist.cons _ (List.Sublist.cons_cons _ (List.Sublist.cons_cons _ (List.Sublist.cons_cons _ (List.Sublist.slnil))))))))))))) ?_
        refine h_take (i := 7) (ls := #[true, true, true, true, true, true, true, true, false]) rfl (by kernel_rfl) (by kernel_rfl) (by kernel_rfl) (fun _ _ _ h => h) (p_assign (v := .bool false) rfl) rfl rfl rfl (fun _ hw => HeapIs.drop hw (List.Sublist.cons _ (List.Sublist.cons_cons _ (List.Sublist.cons_cons _ (List.Sublist.cons_cons _ (List.Sublist.cons_cons _ (List.Sublist.cons_cons _ (List.Sublist.cons_cons _ (List.Sublist.cons _ (List.Sublist.cons_cons _ (List.Sublist.cons_cons _ (List.Sublist.cons_cons _ (List.Sublist.slnil))))))))))))) rfl ?_
        refine h_take (i := 8) (ls := #[true, true, true, true, true, true, true, true, true]) rfl (by kernel_rfl) (by kernel_rfl) (by kernel_rfl) (fun _ _ _ h => h) (p_assign (v := .slice a27_5 ([(h.things[Greedy.least h.things]).key] ++ ((Greedy.touch (⟨h.room, (h.things[Greedy.least h.things]).worth, ((h.things.take (Greedy.least h.things)) ++ (h.things.drop (Greedy.least h.things + 1)))⟩ : DGreedy) t).2.2)).length c27_5) rfl) rfl rfl rfl (fun _ hw => HeapIs.drop hw (List.Sublist.cons _ (List.Sublist.cons_cons _ (List.Sublist.cons_cons _ (List.Sublist.cons_cons _ (List.Sublist.cons_cons _ (List.Sublist.cons_cons _ (List.Sublist.cons_cons _ (List.Sublist.cons _ (List.Sublist.cons_cons _ (List.Sublist.cons_cons _ (List.Sublist.cons_cons _ (List.Sublist.slnil))))))))))))) rfl ?_
        refine h_done (by kernel_rfl) ?_
        refine q_then ?_
        refine c_ret ?_
        refine q_then_ret ?_
        first
          | have hT := Greedy.touch_hit2 (h := h) (t := t) (i := i) (by omega) (by assumption) (fun j hj hlt => hI.2 j hj hlt)
          | have hT := Greedy.touch_big (h := h) (t := t) hneg (by assumption)
          | have hT := Greedy.touch_rec' (h := h) (t := t) hneg (by assumption) hll (by assumption)
          | have hT := Greedy.touch_fit (h := h) (t := t) hneg (by assumption) (by omega) (by omega)
        have hr0 : (((Greedy.touch (⟨h.room, (h.things[Greedy.least h.things]).worth, ((h.things.take (Greedy.least h.things)) ++ (h.things.drop (Greedy.least h.things + 1)))⟩ : DGreedy) t).1).room : Int) = ((Greedy.touch h t).1).room := by
          first | (rw [hT]; rfl) | (simp only [hT]; done)
        have hr1 : (((Greedy.touch (⟨h.room, (h.things[Greedy.least h.things]).worth, ((h.things.take (Greedy.least h.things)) ++ (h.things.drop (Greedy.least h.things + 1)))⟩ : DGreedy) t).1).floor : Int) = ((Greedy.touch h t).1).floor := by
          first | (rw [hT]; rfl) | (simp only [hT]; done)
        have hr2 : (((Greedy.touch (⟨h.room, (h.things[Greedy.least h.things]).worth, ((h.things.take (Greedy.least h.things)) ++ (h.things.drop (Greedy.least h.things + 1)))⟩ : DGreedy) t).1).things : List DItem) = ((Greedy.touch h t).1).things := by
          first | (rw [hT]; rfl) | (simp only [hT]; done)
        have hr3 : (false : Bool) = ((Greedy.touch h t).2.1) := by
          first | (rw [hT]; rfl) | (simp only [hT]; done)
        have hr4 : (([(h.things[Greedy.least h.things]).key] ++ ((Greedy.touch (⟨h.room, (h.things[Greedy.least h.things]).worth, ((h.things.take (Greedy.least h.things)) ++ (h.things.drop (Greedy.least h.things + 1)))⟩ : DGreedy) t).2.2)) : List Int) = ((Greedy.touch h t).2.2) := by
          first | (rw [hT]; rfl) | (simp only [hT]; done)
        refine q_endM (p := (a20, c21, a27_5, c27_5)) (fun b => S18 b ∨ S27_5 b) (rt3 rfl (r_cell (i := 7) rfl rfl sh39 rfl) (r_tmp rfl) (r_tmp rfl)) (i := 10) rfl ?_ ?_ ?_
        · exact (by have hcc := congr (congr (congr (congr (congrArg (fun (y0 : Int) (y1 : Int) (y2 : List DItem) (y3 : Bool) (y4 : List Int) => (.tuple #[.agg #[.int .i64 y0, .int .i64 y1, .slice a20 y2.length c21], .bool y3, .slice a27_5 y4.length c27_5] : Value)) hr0) hr1) hr2) hr3) hr4; exact hcc)
        · intro w hw b hb; rcases hb with hb | hb
          · exact hw.above (i := 10) (j := 2) (by decide) rfl rfl b hb
          · exact hw.above (i := 10) (j := 0) (by decide) rfl rfl b hb
        · intro w hw; exact ⟨Eq.mp (congrArg (fun y => SlR tItem _ w a20 c21 y) hr2) (SlR.mono (fun b hb => by simp [hb]) ((fun h => h.1) (hw.at (i := 2) rfl).here)), Eq.mp (congrArg (fun y => SlR tInt _ w a27_5 c27_5 y) hr4) (SlR.mono (fun b hb => by simp [hb]) (SlO.toR (hw.at (i := 0) rfl).here))⟩
      · simp only [Bool.or_eq_false_iff, decide_eq_false_iff_not, Int.not_lt, beq_eq_false_iff_ne, ne_eq] at hc13
        refine c_skip ?_
        refine q_then ?_
        refine c_seq ?_
        refine c_region ?_
        refine o_pure (p_fieldAddr (B := B4_9) (j := 0) (j' := 1) rfl fo39_1 rfl) rfl rfl rfl ?_
        refine o_pure (p_load (i := 0) (v := .int .i64 h.floor) rfl rfl sh3 rfl) rfl rfl rfl ?_
        refine o_pure (p_load_agg (i := 3) (vs := [.int .i64 t.key, .int .i64 t.size, .int .i64 t.cost, .int .i64 t.worth]) rfl rfl sh41 rfl rfl) rfl rfl rfl ?_
        refine o_call0 (v := .int .i64 (Greedy.fresh h.floor t)) rfl (hoardFresh_ok h.floor t (by first | assumption | exact ⟨hy1.fits.fl, hy1.fits.right _ (List.getElem_mem _)⟩ | exact ⟨hy1.fits.fl, hy1.right⟩)) hf78 (fun _ _ => trivial) rfl ?_
        refine o_pure (p_fieldAddr (B := B2) (j := 0) (j' := 3) rfl fo41_3 rfl) rfl rfl rfl ?_
        refine o_store (i := 3) (v := .int .i64 (Greedy.fresh h.floor t)) (cs' := [.int .i64 t.key, .int .i64 t.size, .int .i64 t.cost, .int .i64 (Greedy.fresh h.floor t)]) rfl rfl rfl sz3 rfl rfl rfl ?_
        refine o_nil ?_
        refine q_then ?_
        refine c_seq ?_
        refine c_region ?_
        refine o_pure (p_fieldAddr (B := B4_9) (j := 0) (j' := 2) rfl fo39_2 rfl) rfl rfl rfl ?_
        refine o_pure (p_load (i := 0) (v := .slice a4_7 h.things.length c4_7) rfl rfl sh37 rfl) rfl rfl rfl ?_
        refine o_pure (p_load_agg (i := 3) (vs := [.int .i64 t.key, .int .i64 t.size, .int .i64 t.cost, .int .i64 (Greedy.fresh h.floor t)]) rfl rfl sh41 rfl rfl) rfl rfl rfl ?_
        refine o_buildSlice (m := 1) (T := tItem) (L := [(⟨t.key, t.size, t.cost, (Greedy.fresh h.floor t)⟩ : DItem)]) (vs := [.agg #[.int .i64 t.key, .int .i64 t.size, .int .i64 t.cost, .int .i64 (Greedy.fresh h.floor t)]]) rfl rfl rfl rfl Try.underlying37 sz41 (by decide) ze41 rfl (by decide) rfl (fun S28 a29 => ?_)
        refine o_append (i := 2) (L := h.things) (M := [(⟨t.key, t.size, t.cost, (Greedy.fresh h.floor t)⟩ : DItem)]) (T := tItem) rfl rfl rfl (rd_own (i := 0) rfl) Try.underlying37 Try.underlying37 (by intro k h; cases h) el41 (by intro z; simp [tItem, one1]) (by decide) (by first | omega | (simp only [List.length_cons, List.length_nil]; omega) | (simp only [List.length_append, List.length_cons, List.length_nil, List.length_take, List.length_drop]; omega)) rfl (fun a31 c32 S33 => ?_)
        refine o_pure (p_fieldAddr (B := B4_9) (j := 0) (j' := 2) rfl fo39_2 rfl) rfl rfl rfl ?_
        refine o_store (i := 1) (v := .slice a31 (h.things ++ [(⟨t.key, t.size, t.cost, (Greedy.fresh h.floor t)⟩ : DItem)]).length c32) (cs' := [.int .i64 h.room, .int .i64 h.floor, .slice a31 (h.things ++ [(⟨t.key, t.size, t.cost, (Greedy.fresh h.floor t)⟩ : DItem)]).length c32]) rfl rfl rfl sz37 rfl rfl rfl ?_
        refine o_nil ?_
        refine q_then ?_
        refine c_seq ?_
        refine c_region ?_
        refine o_pure (p_load_agg (i := 1) (vs := [.int .i64 h.room, .int .i64 h.floor, .slice a31 (h.things ++ [(⟨t.key, t.size, t.cost, (Greedy.fresh h.floor t)⟩ : DItem)]).length c32]) rfl rfl sh39 rfl rfl) rfl rfl rfl ?_
        refine o_storeN (i := 3) (vs := [.int .i64 h.room, .int .i64 h.floor, .slice a31 (h.things ++ [(⟨t.key, t.size, t.cost, (Greedy.fresh h.floor t)⟩ : DItem)]).length c32]) (cs' := [.int .i64 h.room, .int .i64 h.floor, .slice a31 (h.things ++ [(⟨t.key, t.size, t.cost, (Greedy.fresh h.floor t)⟩ : DItem)]).length c32]) rfl rfl rfl sz39 rfl rfl rfl rfl ?_
        refine o_pure (p_assign (v := .bool false) rfl) rfl rfl rfl ?_
        refine o_pure (p_assign (v := .slice none 0 0) rfl) rfl rfl rfl ?_
        refine o_nil ?_
        refine q_then ?_
        refine c_ret ?_
        first
          | have hT := Greedy.touch_hit2 (h := h) (t := t) (i := i) (by omega) (by assumption) (fun j hj hlt => hI.2 j hj hlt)
          | have hT := Greedy.touch_big (h := h) (t := t) hneg (by assumption)
          | have hT := Greedy.touch_rec' (h := h) (t := t) hneg (by assumption) hll (by assumption)
          | have hT := Greedy.touch_fit (h := h) (t := t) hneg (by assumption) (by omega) (by omega)
        have hr0 : (h.room : Int) = ((Greedy.touch h t).1).room := by
          first | (rw [hT]; rfl) | (simp only [hT]; done)
        have hr1 : (h.floor : Int) = ((Greedy.touch h t).1).floor := by
          first | (rw [hT]; rfl) | (simp only [hT]; done)
        have hr2 : ((h.things ++ [(⟨t.key, t.size, t.cost, (Greedy.fresh h.floor t)⟩ : DItem)]) : List DItem) = ((Greedy.touch h t).1).things := by
          first | (rw [hT]; rfl) | (simp only [hT]; done)
        have hr3 : (false : Bool) = ((Greedy.touch h t).2.1) := by
          first | (rw [hT]; rfl) | (simp only [hT]; done)
        have hr4 : ([] : List Int) = ((Greedy.touch h t).2.2) := by
          first | (rw [hT]; rfl) | (simp only [hT]; done)
        refine q_endM (p := (a31, c32, none, 0)) (fun b => S33 b) (rt3 rfl (r_cell (i := 3) rfl rfl sh39 rfl) (r_tmp rfl) (r_tmp rfl)) (i := 6) rfl ?_ ?_ ?_
        · exact (by have hcc := congr (congr (congr (congr (congrArg (fun (y0 : Int) (y1 : Int) (y2 : List DItem) (y3 : Bool) (y4 : List Int) => (.tuple #[.agg #[.int .i64 y0, .int .i64 y1, .slice a31 y2.length c32], .bool y3, .slice none y4.length 0] : Value)) hr0) hr1) hr2) hr3) hr4; exact hcc)
        · intro w hw b hb; rcases hb with hb
          · exact hw.above (i := 6) (j := 2) (by decide) rfl rfl b hb
        · intro w hw; exact ⟨Eq.mp (congrArg (fun y => SlR tItem _ w a31 c32 y) hr2) (SlR.mono (fun b hb => by simp [hb]) (SlO.toR (hw.at (i := 2) rfl).here)), Eq.mp (congrArg (fun y => SlR tInt _ w none 0 y) hr4) (SlR.nil tInt _ w)⟩
theorem hoardTouch_ok (h : DGreedy) (ah_0 : Option Addr) (ch_0 : Nat) (t : DItem) (hy1 : Greedy.Hy h t) : FnM Try.prog 29 [.agg #[.int .i64 h.room, .int .i64 h.floor, .slice ah_0 h.things.length ch_0], .agg #[.int .i64 t.key, .int .i64 t.size, .int .i64 t.cost, .int .i64 t.worth]] (fun w => Rd tItem w ah_0 ch_0 h.things) (Option Addr × Nat × Option Addr × Nat) (fun p => .tuple #[.agg #[.int .i64 (((Greedy.touch h t).1).room), .int .i64 (((Greedy.touch h t).1).floor), .slice p.1 (((Greedy.touch h t).1).things).length p.2.1], .bool ((Greedy.touch h t).2.1), .slice p.2.2.1 ((Greedy.touch h t).2.2).length p.2.2.2]) (fun p S w => SlR tItem S w p.1 p.2.1 (((Greedy.touch h t).1).things) ∧ SlR tInt S w p.2.2.1 p.2.2.2 ((Greedy.touch h t).2.2)) := by
  have key : ∀ (nr : Nat) (h : DGreedy) (ah_0 : Option Addr) (ch_0 : Nat) (t : DItem) (hy1 : Greedy.Hy h t), h.things.length = nr → FnM Try.prog 29 [.agg #[.int .i64 h.room, .int .i64 h.floor, .slice ah_0 h.things.length ch_0], .agg #[.int .i64 t.key, .int .i64 t.size, .int .i64 t.cost, .int .i64 t.worth]] (fun w => Rd tItem w ah_0 ch_0 h.things) (Option Addr × Nat × Option Addr × Nat) (fun p => .tuple #[.agg #[.int .i64 (((Greedy.touch h t).1).room), .int .i64 (((Greedy.touch h t).1).floor), .slice p.1 (((Greedy.touch h t).1).things).length p.2.1], .bool ((Greedy.touch h t).2.1), .slice p.2.2.1 ((Greedy.touch h t).2.2).length p.2.2.2]) (fun p S w => SlR tItem S w p.1 p.2.1 (((Greedy.touch h t).1).things) ∧ SlR tInt S w p.2.2.1 p.2.2.2 ((Greedy.touch h t).2.2)) := fun nr => Nat.strongRecOn nr (fun nr ihr => fun h ah_0 ch_0 t hy1 hnr => hoardTouch_step nr (fun h ah_0 ch_0 t hy1 hmr => ihr _ hmr h ah_0 ch_0 t hy1 rfl) h ah_0 ch_0 t hy1 hnr)
  exact key _ h ah_0 ch_0 t hy1 rfl
end Go.Proofs.Ythbfdhphnofacab
