/- The walks, printed by a program from the translation and a specification. -/
import Derived.Test.YthbfdhphnofacabTfF
import Derived.Test.YthbfdhphnofacabTfLaw
import Derived.Test.YthbfdhphnofacabTfW4
namespace Go.Proofs.Ythbfdhphnofacab
open Go.Sx Go.RowKit
set_option maxHeartbeats 8000000 in
set_option maxRecDepth 100000 in
theorem touch_ok (c : DClock) (Bc : Nat) (ac_0 : Option Addr) (cc_0 : Nat) (Sc_0 : Nat → Prop) (key : Int) (hy1 : Clock.Ok c) : FnX Try.prog 81 [.pointer (some ⟨Bc, 0, none⟩), .int .i64 key] [box Bc [.int .i64 c.room, .int .i64 c.hand, .slice ac_0 c.frames.length cc_0] 122, own tFrame Sc_0 ac_0 cc_0 c.frames] (fun _ => True) (Option Addr × Nat × (Nat → Prop)) (fun p => .tuple #[.bool ((Clock.touch c key).2.1), .int .i64 ((Clock.touch c key).2.2)]) (fun p => [box Bc [.int .i64 (((Clock.touch c key).1).room), .int .i64 (((Clock.touch c key).1).hand), .slice p.1 (((Clock.touch c key).1).frames).length p.2.1] 122, own tFrame p.2.2 p.1 p.2.1 (((Clock.touch c key).1).frames)]) := by
  refine fnX (nt := 106) (F0 := [(0, .pointer (some ⟨Bc, 0, none⟩)), (1, .int .i64 key)]) Try.func81 rfl Try.ntmps81 rfl rfl (fun w0 hpre => ?_)
  refine c_know (fun w hw => own_len (i := 2) (T := tFrame) hw rfl) (fun hlown_c_0 => ?_)
  obtain ⟨hcown_c_0, hlown_c_0⟩ := hlown_c_0
  have hroom := hy1.room
  have hlen := hy1.len
  refine c_seq ?_
  refine c_region ?_
  refine o_box (v := .int .i64 key) rfl rfl (fun B1 => ?_)
  refine o_pure (p_assign (v := .bool false) rfl) rfl rfl rfl ?_
  refine o_pure (p_assign (v := .int .i64 0) rfl) rfl rfl rfl ?_
  refine o_nil ?_
  refine q_then ?_
  refine c_seq ?_
  refine c_seq ?_
  refine c_region ?_
  refine o_pure (p_move (v := .pointer (some ⟨Bc, 0, none⟩)) rfl) rfl rfl rfl ?_
  refine o_pure (p_nilCheck rfl) rfl rfl rfl ?_
  refine o_pure (p_fieldAddr (B := Bc) (j := 0) (j' := 0) rfl fo122_0 rfl) rfl rfl rfl ?_
  refine o_pure (p_fieldAddr (B := Bc) (j := 0) (j' := 2) rfl fo59_2 rfl) rfl rfl rfl ?_
  refine o_pure (p_load (i := 2) (v := .slice ac_0 c.frames.length cc_0) rfl rfl sh57 rfl) rfl rfl rfl ?_
  refine o_pure (p_makeFunc (vs := [.pointer (some ⟨B1, 0, none⟩)]) rfl) rfl rfl rfl ?_
  refine o_call0 (v := .int .i64 (idxF (fun x : DFrame => (x.key == key)) c.frames)) rfl (indexFunc_Frame_ok c.frames ac_0 cc_0 107 [.pointer (some ⟨B1, 0, none⟩)] (fun x => (x.key == key)) (fun w => (box B1 [.int .i64 key] 3).A w) (fun _ _ hb h => box_below hb h) (fun x => touch1_ok x B1 key) hf107) hf106 (fun w hw => ⟨(rd_own (i := 3) rfl) w hw, (hw.at (i := 0) rfl).here⟩) rfl ?_
  refine o_pure (p_assign (v := .int .i64 (idxF (fun x : DFrame => (x.key == key)) c.frames)) rfl) rfl rfl rfl ?_
  refine o_nil ?_
  refine q_then ?_
  refine c_seq ?_
  refine c_region ?_
  refine o_pure (p_move (v := .int .i64 (idxF (fun x : DFrame => (x.key == key)) c.frames)) rfl) rfl rfl rfl ?_
  refine o_pure (p_ge (p := (idxF (fun x : DFrame => (x.key == key)) c.frames)) (q := 0) rfl rfl) rfl rfl rfl ?_
  refine o_nil ?_
  refine q_then ?_
  refine c_cond (b := decide (0 ≤ (idxF (fun x : DFrame => (x.key == key)) c.frames))) rfl (fun hc2 => ?_) (fun hc2 => ?_)
  · simp only [decide_eq_true_eq] at hc2
    have hix := idxF_lt (fun x : DFrame => (x.key == key)) c.frames
    refine c_seq ?_
    refine c_region ?_
    refine o_pure (p_move (v := .pointer (some ⟨Bc, 0, none⟩)) rfl) rfl rfl rfl ?_
    refine o_pure (p_nilCheck rfl) rfl rfl rfl ?_
    refine o_pure (p_fieldAddr (B := Bc) (j := 0) (j' := 0) rfl fo122_0 rfl) rfl rfl rfl ?_
    refine o_pure (p_fieldAddr (B := Bc) (j := 0) (j' := 2) rfl fo59_2 rfl) rfl rfl rfl ?_
    refine o_pure (p_load (i := 2) (v := .slice ac_0 c.frames.length cc_0) rfl rfl sh57 rfl) rfl rfl rfl ?_
    refine o_pure (p_move (v := .int .i64 (idxF (fun x : DFrame => (x.key == key)) c.frames)) rfl) rfl rfl rfl ?_
    refine o_pure (p_indexAddr (L := c.frames) (T := tFrame) (i := (idxF (fun x : DFrame => (x.key == key)) c.frames)) rfl rfl (rd_own (i := 3) rfl) Try.underlying57 sz73 (by omega) (by omega)) rfl rfl rfl ?_
    refine o_pure (p_fieldAddrE rfl fo73_1) rfl rfl rfl ?_
    refine o_storeF (j := 1) (i := 3) (T := tFrame) (idx := (idxF (fun x : DFrame => (x.key == key)) c.frames).toNat) (v := .bool true) (vs := [.bool true]) (z := (⟨(c.frames[(idxF (fun x : DFrame => (x.key == key)) c.frames).toNat]).key, true⟩ : DFrame)) (F' := []) rfl rfl rfl rfl (by first | assumption | omega | (simp only [List.length_set]; omega)) sz4 rfl rfl rfl rfl (Sub.nil _) ?_
    refine o_asH (H := [box B1 [.int .i64 key] 3, outer w0 [box Bc [.int .i64 c.room, .int .i64 c.hand, .slice ac_0 c.frames.length cc_0] 122, own tFrame Sc_0 ac_0 cc_0 c.frames], box Bc [.int .i64 c.room, .int .i64 c.hand, .slice ac_0 c.frames.length cc_0] 122, own tFrame Sc_0 ac_0 cc_0 (c.frames.set ((idxF (fun x : DFrame => (x.key == key)) c.frames).toNat) (⟨(c.frames[(idxF (fun x : DFrame => (x.key == key)) c.frames).toNat]).key, true⟩ : DFrame))]) (H' := [box B1 [.int .i64 key] 3, outer w0 [box Bc [.int .i64 c.room, .int .i64 c.hand, .slice ac_0 c.frames.length cc_0] 122, own tFrame Sc_0 ac_0 cc_0 c.frames], box Bc [.int .i64 c.room, .int .i64 c.hand, .slice ac_0 (c.frames.set ((idxF (fun x : DFrame => (x.key == key)) c.frames).toNat) (⟨(c.frames[(idxF (fun x : DFrame => (x.key == key)) c.frames).toNat]).key, true⟩ : DFrame)).length cc_0] 122, own tFrame Sc_0 ac_0 cc_0 (c.frames.set ((idxF (fun x : DFrame => (x.key == key)) c.frames).toNat) (⟨(c.frames[(idxF (fun x : DFrame => (x.key == key)) c.frames).toNat]).key, true⟩ : DFrame))]) (by simp only [List.length_set]) ?_
    refine o_nil ?_
    refine q_then ?_
    refine c_seq ?_
    refine c_region ?_
    refine o_pure (p_assign (v := .bool true) rfl) rfl rfl rfl ?_
    refine o_pure (p_assign (v := .int .i64 (-1)) rfl) rfl rfl rfl ?_
    refine o_nil ?_
    refine q_then ?_
    refine c_ret ?_
    refine q_then_ret ?_
    first
      | have ht := Clock.touch_hit (c := c) (key := key) (by assumption)
      | have ht := Clock.touch_room (c := c) (key := key) (by omega) (by omega)
      | have ht := Clock.touch_evict (key := key) hI (by omega) (by omega) hhl (by assumption)
    have hr0 : (c.room : Int) = ((Clock.touch c key).1).room := by
      simp only [ht, List.length_set]
    have hr1 : (c.hand : Int) = ((Clock.touch c key).1).hand := by
      simp only [ht, List.length_set]
    have hr2 : ((c.frames.set ((idxF (fun x : DFrame => (x.key == key)) c.frames).toNat) (⟨(c.frames[(idxF (fun x : DFrame => (x.key == key)) c.frames).toNat]).key, true⟩ : DFrame)) : List DFrame) = ((Clock.touch c key).1).frames := by
      simp only [ht, List.length_set]
    have hr3 : (true : Bool) = ((Clock.touch c key).2.1) := by
      simp only [ht, List.length_set]
    have hr4 : ((-1) : Int) = ((Clock.touch c key).2.2) := by
      simp only [ht, List.length_set]
    refine q_endX (p := (ac_0, cc_0, Sc_0)) (rt2 rfl (r_tmp rfl) (r_tmp rfl)) ?_ (fun w hw => ?_)
    · exact (by have hcc := congr (congr (congr (congr (congrArg (fun (y0 : Int) (y1 : Int) (y2 : List DFrame) (y3 : Bool) (y4 : Int) => (.tuple #[.bool y3, .int .i64 y4] : Value)) hr0) hr1) hr2) hr3) hr4; exact hcc)
    · have h2 := hw.pick (H' := [outer w0 [box Bc [.int .i64 c.room, .int .i64 c.hand, .slice ac_0 c.frames.length cc_0] 122, own tFrame Sc_0 ac_0 cc_0 c.frames], box Bc [.int .i64 c.room, .int .i64 c.hand, .slice ac_0 (c.frames.set ((idxF (fun x : DFrame => (x.key == key)) c.frames).toNat) (⟨(c.frames[(idxF (fun x : DFrame => (x.key == key)) c.frames).toNat]).key, true⟩ : DFrame)).length cc_0] 122, own tFrame Sc_0 ac_0 cc_0 (c.frames.set ((idxF (fun x : DFrame => (x.key == key)) c.frames).toNat) (⟨(c.frames[(idxF (fun x : DFrame => (x.key == key)) c.frames).toNat]).key, true⟩ : DFrame))]) [1, 2, 3] (by decide) rfl
      exact Eq.mp (congrArg (fun z => HeapIs w0 ((outer w0 [box Bc [.int .i64 c.room, .int .i64 c.hand, .slice ac_0 c.frames.length cc_0] 122, own tFrame Sc_0 ac_0 cc_0 c.frames]) :: z) w) ((by have hcc := congr (congr (congr (congr (congrArg (fun (y0 : Int) (y1 : Int) (y2 : List DFrame) (y3 : Bool) (y4 : Int) => ([box Bc [.int .i64 y0, .int .i64 y1, .slice ac_0 y2.length cc_0] 122, own tFrame Sc_0 ac_0 cc_0 y2] : List Ent)) hr0) hr1) hr2) hr3) hr4; exact hcc))) h2
  · simp only [decide_eq_false_iff_not, Int.not_le] at hc2
    refine c_skip ?_
    refine q_then ?_
    refine c_seq ?_
    refine c_seq ?_
    refine c_draw hmix (by kernel_rfl) ?_
    refine w_pure (p_move (v := .pointer (some ⟨Bc, 0, none⟩)) rfl) rfl rfl rfl ?_
    refine w_pure (p_nilCheck rfl) rfl rfl rfl ?_
    refine w_pure (p_fieldAddr (B := Bc) (j := 0) (j' := 0) rfl fo122_0 rfl) rfl rfl rfl ?_
    refine w_pure (p_fieldAddr (B := Bc) (j := 0) (j' := 2) rfl fo59_2 rfl) rfl rfl rfl ?_
    refine w_pure (p_load (i := 2) (v := .slice ac_0 c.frames.length cc_0) rfl rfl sh57 rfl) rfl rfl rfl ?_
    refine w_pure (p_len_slice (len := c.frames.length) rfl rfl Try.underlying57) rfl rfl rfl ?_
    refine w_pure (p_move (v := .pointer (some ⟨Bc, 0, none⟩)) rfl) rfl rfl rfl ?_
    refine w_pure (p_nilCheck rfl) rfl rfl rfl ?_
    refine w_pure (p_fieldAddr (B := Bc) (j := 0) (j' := 0) rfl fo122_0 rfl) rfl rfl rfl ?_
    refine w_pure (p_fieldAddr (B := Bc) (j := 0) (j' := 0) rfl fo59_0 rfl) rfl rfl rfl ?_
    refine w_pure (p_load (i := 2) (v := .int .i64 c.room) rfl rfl sh3 rfl) rfl rfl rfl ?_
    refine w_pure (p_lt (p := (c.frames.length : Int)) (q := c.room) rfl rfl) rfl rfl rfl ?_
    refine w_nil ?_
    refine q_then ?_
    refine c_cond (b := decide ((c.frames.length : Int) < c.room)) rfl (fun hc3 => ?_) (fun hc3 => ?_)
    · simp only [decide_eq_true_eq] at hc3
      refine c_seq ?_
      refine c_cut (G := (Nat → Prop) × Option Addr × Option Addr × Nat × (Nat → Prop)) (fun ⟨S4_8, a4_8, a4_9, c4_9, S4_9⟩ => []) (fun ⟨S4_8, a4_8, a4_9, c4_9, S4_9⟩ => [own tFrame S4_8 a4_8 ([(⟨key, false⟩ : DFrame)].length) ([(⟨key, false⟩ : DFrame)]), box B1 [.int .i64 key] 3, outer w0 [box Bc [.int .i64 c.room, .int .i64 c.hand, .slice ac_0 c.frames.length cc_0] 122, own tFrame Sc_0 ac_0 cc_0 c.frames], box Bc [.int .i64 c.room, .int .i64 c.hand, .slice a4_9 (c.frames ++ [(⟨key, false⟩ : DFrame)]).length c4_9] 122, own tFrame S4_9 a4_9 c4_9 (c.frames ++ [(⟨key, false⟩ : DFrame)])]) (fun K hK5 => ?_) ?_
      · refine c_held hmix [box B1 [.int .i64 key] 3, outer w0 [box Bc [.int .i64 c.room, .int .i64 c.hand, .slice ac_0 c.frames.length cc_0] 122, own tFrame Sc_0 ac_0 cc_0 c.frames]] rfl rfl ?_
        refine h_take (i := 0) (ls := #[true, false, false, false, false, false, false, false, false, false, false, false, false, false]) rfl (by kernel_rfl) (by kernel_rfl) (by kernel_rfl) (fun _ _ _ h => h) (p_move (v := .pointer (some ⟨Bc, 0, none⟩)) rfl) rfl rfl rfl (fun _ hw => HeapIs.drop hw (List.Sublist.cons_cons _ (List.Sublist.cons_cons _ (List.Sublist.cons _ (List.Sublist.cons _ (List.Sublist.slnil)))))) rfl ?_
        refine h_take (i := 1) (ls := #[true, true, false, false, false, false, false, false, false, false, false, false, false, false]) rfl (by kernel_rfl) (by kernel_rfl) (by kernel_rfl) (fun _ _ _ h => h) (p_move (v := .pointer (some ⟨Bc, 0, none⟩)) rfl) rfl rfl rfl (fun _ hw => HeapIs.drop hw (List.Sublist.cons_cons _ (List.Sublist.cons_cons _ (List.Sublist.cons _ (List.Sublist.cons _ (List.Sublist.slnil)))))) rfl ?_
        refine h_take (i := 2) (ls := #[true, true, true, false, false, false, false, false, false, false, false, false, false, false]) rfl (by kernel_rfl) (by kernel_rfl) (by kernel_rfl) (fun _ _ _ h => h) (p_nilCheck rfl) rfl rfl rfl (fun _ hw => HeapIs.drop hw (List.Sublist.cons_cons _ (List.Sublist.cons_cons _ (List.Sublist.cons _ (List.Sublist.cons _ (List.Sublist.slnil)))))) rfl ?_
        refine h_take (i := 3) (ls := #[true, true, true, true, false, false, false, false, false, false, false, false, false, false]) rfl (by kernel_rfl) (by kernel_rfl) (by kernel_rfl) (fun _ _ _ h => h) (p_fieldAddr (B := Bc) (j := 0) (j' := 0) rfl fo122_0 rfl) rfl rfl rfl (fun _ hw => HeapIs.drop hw (List.Sublist.cons_cons _ (List.Sublist.cons_cons _ (List.Sublist.cons _ (List.Sublist.cons _ (List.Sublist.slnil)))))) rfl ?_
        refine h_take (i := 4) (ls := #[true, true, true, true, true, false, false, false, false, false, false, false, false, false]) rfl (by kernel_rfl) (by kernel_rfl) (by kernel_rfl) (fun _ _ _ h => h) (p_fieldAddr (B := Bc) (j := 0) (j' := 2) rfl fo59_2 rfl) rfl rfl rfl (fun _ hw => HeapIs.drop hw (List.Sublist.cons_cons _ (List.Sublist.cons_cons _ (List.Sublist.cons _ (List.Sublist.cons _ (List.Sublist.slnil)))))) rfl ?_
        refine h_take (i := 6) (ls := #[true, true, true, true, true, false, true, false, false, false, false, false, false, false]) rfl (by kernel_rfl) (by kernel_rfl) (by kernel_rfl) (fun _ _ _ h => h) (p_load (i := 0) (v := .int .i64 key) rfl rfl sh3 rfl) rfl rfl rfl (fun _ hw => HeapIs.drop hw (List.Sublist.cons_cons _ (List.Sublist.cons_cons _ (List.Sublist.cons _ (List.Sublist.cons _ (List.Sublist.slnil)))))) rfl ?_
        refine h_take (i := 7) (ls := #[true, true, true, true, true, false, true, true, false, false, false, false, false, false]) rfl (by kernel_rfl) (by kernel_rfl) (by kernel_rfl) (fun _ _ _ h => h) (p_build (cells := [.int .i64 key, .bool false]) fp73 ze73 rfl rfl) rfl rfl rfl (fun _ hw => HeapIs.drop hw (List.Sublist.cons_cons _ (List.Sublist.cons_cons _ (List.Sublist.cons _ (List.Sublist.cons _ (List.Sublist.slnil)))))) rfl ?_
        refine h_two (i := 5) (j := 8) (ls := #[true, true, true, true, true, true, true, true, false, false, false, false, false, false]) (ls' := #[true, true, true, true, true, false, true, true, true, false, false, false, false, false]) (by kernel_rfl) rfl rfl rfl rfl ?_ ?_
        · refine o_pure (p_load (i := 2) (v := .slice ac_0 c.frames.length cc_0) rfl rfl sh57 rfl) rfl rfl rfl ?_
          refine o_nil ?_
          refine h_next (fun _ hw => HeapIs.drop hw (List.Sublist.cons_cons _ (List.Sublist.cons_cons _ (List.Sublist.cons _ (List.Sublist.cons _ (List.Sublist.slnil)))))) ?_
          refine h_one (i := 8) (ls := #[true, true, true, true, true, true, true, true, true, false, false, false, false, false]) (by kernel_rfl) rfl rfl ?_
          refine o_buildSlice (m := 1) (T := tFrame) (L := [(⟨key, false⟩ : DFrame)]) (vs := [.agg #[.int .i64 key, .bool false]]) rfl rfl rfl rfl Try.underlying57 sz73 (by decide) ze73 rfl (by decide) rfl (fun S4_8 a4_8 => ?_)
          refine o_nil ?_
          refine h_next (fun _ hw => HeapIs.drop hw (List.Sublist.cons _ (List.Sublist.cons_cons _ (List.Sublist.cons_cons _ (List.Sublist.cons _ (List.Sublist.cons _ (List.Sublist.slnil))))))) ?_
          refine h_one (i := 9) (ls := #[true, true, true, true, true, true, true, true, true, true, false, false, false, false]) (by kernel_rfl) rfl rfl ?_
          refine o_append (i := 4) (L := c.frames) (M := [(⟨key, false⟩ : DFrame)]) (T := tFrame) rfl rfl rfl (rd_own (i := 0) rfl) Try.underlying57 Try.underlying57 (by intro k h; cases h) el73 (by intro z; simp [tFrame, one1]) (by decide) (by first | omega | (simp only [List.length_cons, List.length_nil]; omega) | (simp only [List.length_append, List.length_cons, List.length_nil, List.length_take, List.length_drop]; omega)) rfl (fun a4_9 c4_9 S4_9 => ?_)
          refine o_nil ?_
          refine h_next (fun _ hw => HeapIs.drop hw (List.Sublist.cons _ (List.Sublist.cons_cons _ (List.Sublist.cons_cons _ (List.Sublist.cons _ (List.Sublist.cons _ (List.Sublist.slnil))))))) ?_
          refine h_take (i := 10) (ls := #[true, true, true, true, true, true, true, true, true, true, true, false, false, false]) rfl (by kernel_rfl) (by kernel_rfl) (by kernel_rfl) (fun _ _ _ h => h) (p_nilCheck rfl) rfl rfl rfl (fun _ hw => HeapIs.drop hw (List.Sublist.cons _ (List.Sublist.cons_cons _ (List.Sublist.cons_cons _ (List.Sublist.cons _ (List.Sublist.cons _ (List.Sublist.slnil))))))) rfl ?_
          refine h_take (i := 11) (ls := #[true, true, true, true, true, true, true, true, true, true, true, true, false, false]) rfl (by kernel_rfl) (by kernel_rfl) (by kernel_rfl) (fun _ _ _ h => h) (p_fieldAddr (B := Bc) (j := 0) (j' := 0) rfl fo122_0 rfl) rfl rfl rfl (fun _ hw => HeapIs.drop hw (List.Sublist.cons _ (List.Sublist.cons_cons _ (List.Sublist.cons_cons _ (List.Sublist.cons _ (List.Sublist.cons _ (List.Sublist.slnil))))))) rfl ?_
          refine h_take (i := 12) (ls := #[true, true, true, true, true, true, true, true, true, true, true, true, true, false]) rfl (by kernel_rfl) (by kernel_rfl) (by kernel_rfl) (fun _ _ _ h => h) (p_fieldAddr (B := Bc) (j := 0) (j' := 2) rfl fo59_2 rfl) rfl rfl rfl (fun _ hw => HeapIs.drop hw (List.Sublist.cons _ (List.Sublist.cons_cons _ (List.Sublist.cons_cons _ (List.Sublist.cons _ (List.Sublist.cons _ (List.Sublist.slnil))))))) rfl ?_
          refine h_one (i := 13) (ls := #[true, true, true, true, true, true, true, true, true, true, true, true, true, true]) (by kernel_rfl) rfl rfl ?_
          refine o_store (i := 3) (v := .slice a4_9 (c.frames ++ [(⟨key, false⟩ : DFrame)]).length c4_9) (cs' := [.int .i64 c.room, .int .i64 c.hand, .slice a4_9 (c.frames ++ [(⟨key, false⟩ : DFrame)]).length c4_9]) rfl rfl rfl sz57 rfl rfl rfl ?_
          refine o_nil ?_
          refine h_next (fun _ hw => HeapIs.drop hw (List.Sublist.cons _ (List.Sublist.cons_cons _ (List.Sublist.cons_cons _ (List.Sublist.cons _ (List.Sublist.cons _ (List.Sublist.slnil))))))) ?_
          refine h_done (by kernel_rfl) ?_
          refine q_kont hK5 (S4_8, a4_8, a4_9, c4_9, S4_9) (Sub.nil _) (fun _ hw => HeapIs.pick hw [0, 1, 2, 3, 4] (by decide) rfl)
        · refine o_buildSlice (m := 1) (T := tFrame) (L := [(⟨key, false⟩ : DFrame)]) (vs := [.agg #[.int .i64 key, .bool false]]) rfl rfl rfl rfl Try.underlying57 sz73 (by decide) ze73 rfl (by decide) rfl (fun S4_8 a4_8 => ?_)
          refine o_nil ?_
          refine h_next (fun _ hw => HeapIs.drop hw (List.Sublist.cons _ (List.Sublist.cons_cons _ (List.Sublist.cons_cons _ (List.Sublist.cons _ (List.Sublist.cons _ (List.Sublist.slnil))))))) ?_
          refine h_one (i := 5) (ls := #[true, true, true, true, true, true, true, true, true, false, false, false, false, false]) (by kernel_rfl) rfl rfl ?_
          refine o_pure (p_load (i := 3) (v := .slice ac_0 c.frames.length cc_0) rfl rfl sh57 rfl) rfl rfl rfl ?_
          refine o_nil ?_
          refine h_next (fun _ hw => HeapIs.drop hw (List.Sublist.cons _ (List.Sublist.cons_cons _ (List.Sublist.cons_cons _ (List.Sublist.cons _ (List.Sublist.cons _ (List.Sublist.slnil))))))) ?_
          refine h_one (i := 9) (ls := #[true, true, true, true, true, true, true, true, true, true, false, false, false, false]) (by kernel_rfl) rfl rfl ?_
          refine o_append (i := 4) (L := c.frames) (M := [(⟨key, false⟩ : DFrame)]) (T := tFrame) rfl rfl rfl (rd_own (i := 0) rfl) Try.underlying57 Try.underlying57 (by intro k h; cases h) el73 (by intro z; simp [tFrame, one1]) (by decide) (by first | omega | (simp only [List.length_cons, List.length_nil]; omega) | (simp only [List.length_append, List.length_cons, List.length_nil, List.length_take, List.length_drop]; omega)) rfl (fun a4_9 c4_9 S4_9 => ?_)
          refine o_nil ?_
          refine h_next (fun _ hw => HeapIs.drop hw (List.Sublist.cons _ (List.Sublist.cons_cons _ (List.Sublist.cons_cons _ (List.Sublist.cons _ (List.Sublist.cons _ (List.Sublist.slnil))))))) ?_
          refine h_take (i := 10) (ls := #[true, true, true, true, true, true, true, true, true, true, true, false, false, false]) rfl (by kernel_rfl) (by kernel_rfl) (by kernel_rfl) (fun _ _ _ h => h) (p_nilCheck rfl) rfl rfl rfl (fun _ hw => HeapIs.drop hw (List.Sublist.cons _ (List.Sublist.cons_cons _ (List.Sublist.cons_cons _ (List.Sublist.cons _ (List.Sublist.cons _ (List.Sublist.slnil))))))) rfl ?_
          refine h_take (i := 11) (ls := #[true, true, true, true, true, true, true, true, true, true, true, true, false, false]) rfl (by kernel_rfl) (by kernel_rfl) (by kernel_rfl) (fun _ _ _ h => h) (p_fieldAddr (B := Bc) (j := 0) (j' := 0) rfl fo122_0 rfl) rfl rfl rfl (fun _ hw => HeapIs.drop hw (List.Sublist.cons _ (List.Sublist.cons_cons _ (List.Sublist.cons_cons _ (List.Sublist.cons _ (List.Sublist.cons _ (List.Sublist.slnil))))))) rfl ?_
          refine h_take (i := 12) (ls := #[true, true, true, true, true, true, true, true, true, true, true, true, true, false]) rfl (by kernel_rfl) (by kernel_rfl) (by kernel_rfl) (fun _ _ _ h => h) (p_fieldAddr (B := Bc) (j := 0) (j' := 2) rfl fo59_2 rfl) rfl rfl rfl (fun _ hw => HeapIs.drop hw (List.Sublist.cons _ (List.Sublist.cons_cons _ (List.Sublist.cons_cons _ (List.Sublist.cons _ (List.Sublist.cons _ (List.Sublist.slnil))))))) rfl ?_
          refine h_one (i := 13) (ls := #[true, true, true, true, true, true, true, true, true, true, true, true, true, true]) (by kernel_rfl) rfl rfl ?_
          refine o_store (i := 3) (v := .slice a4_9 (c.frames ++ [(⟨key, false⟩ : DFrame)]).length c4_9) (cs' := [.int .i64 c.room, .int .i64 c.hand, .slice a4_9 (c.frames ++ [(⟨key, false⟩ : DFrame)]).length c4_9]) rfl rfl rfl sz57 rfl rfl rfl ?_
          refine o_nil ?_
          refine h_next (fun _ hw => HeapIs.drop hw (List.Sublist.cons _ (List.Sublist.cons_cons _ (List.Sublist.cons_cons _ (List.Sublist.cons _ (List.Sublist.cons _ (List.Sublist.slnil))))))) ?_
          refine h_done (by kernel_rfl) ?_
          refine q_kont hK5 (S4_8, a4_8, a4_9, c4_9, S4_9) (Sub.nil _) (fun _ hw => HeapIs.pick hw [0, 1, 2, 3, 4] (by decide) rfl)
      rintro ⟨S4_8, a4_8, a4_9, c4_9, S4_9⟩
      show SQ _ 106 w0 _ _ [] [own tFrame S4_8 a4_8 ([(⟨key, false⟩ : DFrame)].length) ([(⟨key, false⟩ : DFrame)]), box B1 [.int .i64 key] 3, outer w0 [box Bc [.int .i64 c.room, .int .i64 c.hand, .slice ac_0 c.frames.length cc_0] 122, own tFrame Sc_0 ac_0 cc_0 c.frames], box Bc [.int .i64 c.room, .int .i64 c.hand, .slice a4_9 (c.frames ++ [(⟨key, false⟩ : DFrame)]).length c4_9] 122, own tFrame S4_9 a4_9 c4_9 (c.frames ++ [(⟨key, false⟩ : DFrame)])]
      refine q_cast (F' := []) (H := [own tFrame S4_8 a4_8 ([(⟨key, false⟩ : DFrame)].length) ([(⟨key, false⟩ : DFrame)]), box B1 [.int .i64 key] 3, outer w0 [box Bc [.int .i64 c.room, .int .i64 c.hand, .slice ac_0 c.frames.length cc_0] 122, own tFrame Sc_0 ac_0 cc_0 c.frames], box Bc [.int .i64 c.room, .int .i64 c.hand, .slice a4_9 (c.frames ++ [(⟨key, false⟩ : DFrame)]).length c4_9] 122, own tFrame S4_9 a4_9 c4_9 (c.frames ++ [(⟨key, false⟩ : DFrame)])]) (H' := [own tFrame S4_8 a4_8 ([(⟨key, false⟩ : DFrame)].length) ([(⟨key, false⟩ : DFrame)]), box B1 [.int .i64 key] 3, outer w0 [box Bc [.int .i64 c.room, .int .i64 c.hand, .slice ac_0 c.frames.length cc_0] 122, own tFrame Sc_0 ac_0 cc_0 c.frames], box Bc [.int .i64 c.room, .int .i64 c.hand, .slice a4_9 (c.frames ++ [(⟨key, false⟩ : DFrame)]).length c4_9] 122, own tFrame S4_9 a4_9 c4_9 (c.frames ++ [(⟨key, false⟩ : DFrame)])]) (Sub.nil _) (by rfl) ?_
      refine q_then ?_
      refine c_seq ?_
      refine c_region ?_
      refine o_pure (p_assign (v := .bool false) rfl) rfl rfl rfl ?_
      refine o_pure (p_assign (v := .int .i64 (-1)) rfl) rfl rfl rfl ?_
      refine o_nil ?_
      refine q_then ?_
      refine c_ret ?_
      refine q_then_ret ?_
      first
        | have ht := Clock.touch_hit (c := c) (key := key) (by assumption)
        | have ht := Clock.touch_room (c := c) (key := key) (by omega) (by omega)
        | have ht := Clock.touch_evict (key := key) hI (by omega) (by omega) hhl (by assumption)
      have hr0 : (c.room : Int) = ((Clock.touch c key).1).room := by
        simp only [ht, List.length_set]
      have hr1 : (c.hand : Int) = ((Clock.touch c key).1).hand := by
        simp only [ht, List.length_set]
      have hr2 : ((c.frames ++ [(⟨key, false⟩ : DFrame)]) : List DFrame) = ((Clock.touch c key).1).frames := by
        simp only [ht, List.length_set]
      have hr3 : (false : Bool) = ((Clock.touch c key).2.1) := by
        simp only [ht, List.length_set]
      have hr4 : ((-1) : Int) = ((Clock.touch c key).2.2) := by
        simp only [ht, List.length_set]
      refine q_endX (p := (a4_9, c4_9, S4_9)) (rt2 rfl (r_tmp rfl) (r_tmp rfl)) ?_ (fun w hw => ?_)
      · exact (by have hcc := congr (congr (congr (congr (congrArg (fun (y0 : Int) (y1 : Int) (y2 : List DFrame) (y3 : Bool) (y4 : Int) => (.tuple #[.bool y3, .int .i64 y4] : Value)) hr0) hr1) hr2) hr3) hr4; exact hcc)
      · have h2 := hw.pick (H' := [outer w0 [box Bc [.int .i64 c.room, .int .i64 c.hand, .slice ac_0 c.frames.length cc_0] 122, own tFrame Sc_0 ac_0 cc_0 c.frames], box Bc [.int .i64 c.room, .int .i64 c.hand, .slice a4_9 (c.frames ++ [(⟨key, false⟩ : DFrame)]).length c4_9] 122, own tFrame S4_9 a4_9 c4_9 (c.frames ++ [(⟨key, false⟩ : DFrame)])]) [2, 3, 4] (by decide) rfl
        exact Eq.mp (congrArg (fun z => HeapIs w0 ((outer w0 [box Bc [.int .i64 c.room, .int .i64 c.hand, .slice ac_0 c.frames.length cc_0] 122, own tFrame Sc_0 ac_0 cc_0 c.frames]) :: z) w) ((by have hcc := congr (congr (congr (congr (congrArg (fun (y0 : Int) (y1 : Int) (y2 : List DFrame) (y3 : Bool) (y4 : Int) => ([box Bc [.int .i64 y0, .int .i64 y1, .slice a4_9 y2.length c4_9] 122, own tFrame S4_9 a4_9 c4_9 y2] : List Ent)) hr0) hr1) hr2) hr3) hr4; exact hcc))) h2
    · simp only [decide_eq_false_iff_not, Int.not_lt] at hc3
      refine c_skip ?_
      refine q_then ?_
      refine c_seq ?_
      refine c_block ?_
      refine c_loop (St := DClock × Option Addr × Nat × (Nat → Prop))
        (fun ⟨cc, acc_0, ccc_0, Scc_0⟩ => [(0, .pointer (some ⟨Bc, 0, none⟩)), (3, .pointer (some ⟨B1, 0, none⟩))])
        (fun ⟨cc, acc_0, ccc_0, Scc_0⟩ => [box B1 [.int .i64 key] 3, outer w0 [box Bc [.int .i64 c.room, .int .i64 c.hand, .slice ac_0 c.frames.length cc_0] 122, own tFrame Sc_0 ac_0 cc_0 c.frames], box Bc [.int .i64 cc.room, .int .i64 cc.hand, .slice acc_0 cc.frames.length ccc_0] 122, own tFrame Scc_0 acc_0 ccc_0 cc.frames])
        (fun ⟨cc, acc_0, ccc_0, Scc_0⟩ => Clock.SInv c cc)
        (fun ⟨cc, acc_0, ccc_0, Scc_0⟩ => Clock.usedOf cc.frames)
        (c, ac_0, cc_0, Sc_0) ?_ (Sub.cons rfl (Sub.cons rfl (Sub.nil _))) (fun _ hw => hw) ?_
      · exact Clock.SInv.start hy1 (by omega)
      rintro ⟨cc, acc_0, ccc_0, Scc_0⟩ hI K hK6
      have hh0 := hI.h0
      have hh1 := hI.h1
      have hsm := hI.small
      have hle := hI.len
      have hhl : cc.hand.toNat < cc.frames.length := by omega
      show SC _ _ Try.prog 106 w0 _ _ [(0, .pointer (some ⟨Bc, 0, none⟩)), (3, .pointer (some ⟨B1, 0, none⟩))] [box B1 [.int .i64 key] 3, outer w0 [box Bc [.int .i64 c.room, .int .i64 c.hand, .slice ac_0 c.frames.length cc_0] 122, own tFrame Sc_0 ac_0 cc_0 c.frames], box Bc [.int .i64 cc.room, .int .i64 cc.hand, .slice acc_0 cc.frames.length ccc_0] 122, own tFrame Scc_0 acc_0 ccc_0 cc.frames]
      refine c_seq ?_
      refine c_seq ?_
      refine c_draw hmix (by kernel_rfl) ?_
      refine w_pure (p_move (v := .pointer (some ⟨Bc, 0, none⟩)) rfl) rfl rfl rfl ?_
      refine w_pure (p_nilCheck rfl) rfl rfl rfl ?_
      refine w_pure (p_fieldAddr (B := Bc) (j := 0) (j' := 0) rfl fo122_0 rfl) rfl rfl rfl ?_
      refine w_pure (p_fieldAddr (B := Bc) (j := 0) (j' := 2) rfl fo59_2 rfl) rfl rfl rfl ?_
      refine w_pure (p_load (i := 2) (v := .slice acc_0 cc.frames.length ccc_0) rfl rfl sh57 rfl) rfl rfl rfl ?_
      refine w_pure (p_move (v := .pointer (some ⟨Bc, 0, none⟩)) rfl) rfl rfl rfl ?_
      refine w_pure (p_nilCheck rfl) rfl rfl rfl ?_
      refine w_pure (p_fieldAddr (B := Bc) (j := 0) (j' := 0) rfl fo122_0 rfl) rfl rfl rfl ?_
      refine w_pure (p_fieldAddr (B := Bc) (j := 0) (j' := 1) rfl fo59_1 rfl) rfl rfl rfl ?_
      refine w_pure (p_load (i := 2) (v := .int .i64 cc.hand) rfl rfl sh3 rfl) rfl rfl rfl ?_
      refine w_pure (p_indexAddr (L := cc.frames) (T := tFrame) (i := cc.hand) rfl rfl (rd_own (i := 3) rfl) Try.underlying57 sz73 (by omega) (by omega)) rfl rfl rfl ?_
      refine w_pure (p_fieldAddrE rfl fo73_1) rfl rfl rfl ?_
      refine w_pure (p_loadF (i := cc.hand.toNat) (j := 1) (T := tFrame) (L := cc.frames) (v := .bool ((cc.frames[cc.hand.toNat]).used)) rfl (rd_own (i := 3) rfl) (by first | assumption | omega) sh4 rfl) rfl rfl rfl ?_
      refine w_nil ?_
      refine q_then ?_
      refine c_cond (b := (cc.frames[cc.hand.toNat]).used) rfl (fun hc7 => ?_) (fun hc7 => ?_)
      · skip
        refine c_skip ?_
        refine q_then ?_
        refine c_block ?_
        refine c_seq ?_
        refine c_held hmix [box B1 [.int .i64 key] 3, outer w0 [box Bc [.int .i64 c.room, .int .i64 c.hand, .slice ac_0 c.frames.length cc_0] 122, own tFrame Sc_0 ac_0 cc_0 c.frames], box Bc [.int .i64 cc.room, .int .i64 cc.hand, .slice acc_0 cc.frames.length ccc_0] 122, ownE tFrame Scc_0 acc_0 ccc_0 (cc.frames.length)] rfl rfl ?_
        refine h_take (i := 0) (ls := #[true, false, false, false, false, false, false, false, false, false, false, false, false]) rfl (by kernel_rfl) (by kernel_rfl) (by kernel_rfl) (fun _ _ _ h => h) (p_move (v := .pointer (some ⟨Bc, 0, none⟩)) rfl) rfl rfl rfl (fun _ hw => HeapIs.drop (HeapIs.toE (i := 3) (m := cc.frames.length) (T := tFrame) rfl (by simp only [List.length_set]) hw) (List.Sublist.refl _)) rfl ?_
        refine h_take (i := 1) (ls := #[true, true, false, false, false, false, false, false, false, false, false, false, false]) rfl (by kernel_rfl) (by kernel_rfl) (by kernel_rfl) (fun _ _ _ h => h) (p_nilCheck rfl) rfl rfl rfl (fun _ hw => HeapIs.drop (HeapIs.toE (i := 3) (m := cc.frames.length) (T := tFrame) rfl (by simp only [List.length_set]) hw) (List.Sublist.refl _)) rfl ?_
        refine h_take (i := 2) (ls := #[true, true, true, false, false, false, false, false, false, false, false, false, false]) rfl (by kernel_rfl) (by kernel_rfl) (by kernel_rfl) (fun _ _ _ h => h) (p_fieldAddr (B := Bc) (j := 0) (j' := 0) rfl fo122_0 rfl) rfl rfl rfl (fun _ hw => HeapIs.drop (HeapIs.toE (i := 3) (m := cc.frames.length) (T := tFrame) rfl (by simp only [List.length_set]) hw) (List.Sublist.refl _)) rfl ?_
        refine h_take (i := 3) (ls := #[true, true, true, true, false, false, false, false, false, false, false, false, false]) rfl (by kernel_rfl) (by kernel_rfl) (by kernel_rfl) (fun _ _ _ h => h) (p_fieldAddr (B := Bc) (j := 0) (j' := 2) rfl fo59_2 rfl) rfl rfl rfl (fun _ hw => HeapIs.drop (HeapIs.toE (i := 3) (m := cc.frames.length) (T := tFrame) rfl (by simp only [List.length_set]) hw) (List.Sublist.refl _)) rfl ?_
        refine h_take (i := 4) (ls := #[true, true, true, true, true, false, false, false, false, false, false, false, false]) rfl (by kernel_rfl) (by kernel_rfl) (by kernel_rfl) (fun _ _ _ h => h) (p_load (i := 2) (v := .slice acc_0 cc.frames.length ccc_0) rfl rfl sh57 rfl) rfl rfl rfl (fun _ hw => HeapIs.drop (HeapIs.toE (i := 3) (m := cc.frames.length) (T := tFrame) rfl (by simp only [List.length_set]) hw) (List.Sublist.refl _)) rfl ?_
        refine h_take (i := 5) (ls := #[true, true, true, true, true, true, false, false, false, false, false, false, false]) rfl (by kernel_rfl) (by kernel_rfl) (by kernel_rfl) (fun _ _ _ h => h) (p_move (v := .pointer (some ⟨Bc, 0, none⟩)) rfl) rfl rfl rfl (fun _ hw => HeapIs.drop (HeapIs.toE (i := 3) (m := cc.frames.length) (T := tFrame) rfl (by simp only [List.length_set]) hw) (List.Sublist.refl _)) rfl ?_
        refine h_take (i := 6) (ls := #[true, true, true, true, true, true, true, false, false, false, false, false, false]) rfl (by kernel_rfl) (by kernel_rfl) (by kernel_rfl) (fun _ _ _ h => h) (p_nilCheck rfl) rfl rfl rfl (fun _ hw => HeapIs.drop (HeapIs.toE (i := 3) (m := cc.frames.length) (T := tFrame) rfl (by simp only [List.length_set]) hw) (List.Sublist.refl _)) rfl ?_
        refine h_take (i := 7) (ls := #[true, true, true, true, true, true, true, true, false, false, false, false, false]) rfl (by kernel_rfl) (by kernel_rfl) (by kernel_rfl) (fun _ _ _ h => h) (p_fieldAddr (B := Bc) (j := 0) (j' := 0) rfl fo122_0 rfl) rfl rfl rfl (fun _ hw => HeapIs.drop (HeapIs.toE (i := 3) (m := cc.frames.length) (T := tFrame) rfl (by simp only [List.length_set]) hw) (List.Sublist.refl _)) rfl ?_
        refine h_take (i := 8) (ls := #[true, true, true, true, true, true, true, true, true, false, false, false, false]) rfl (by kernel_rfl) (by kernel_rfl) (by kernel_rfl) (fun _ _ _ h => h) (p_fieldAddr (B := Bc) (j := 0) (j' := 1) rfl fo59_1 rfl) rfl rfl rfl (fun _ hw => HeapIs.drop (HeapIs.toE (i := 3) (m := cc.frames.length) (T := tFrame) rfl (by simp only [List.length_set]) hw) (List.Sublist.refl _)) rfl ?_
        refine h_take (i := 9) (ls := #[true, true, true, true, true, true, true, true, true, true, false, false, false]) rfl (by kernel_rfl) (by kernel_rfl) (by kernel_rfl) (fun _ _ _ h => h) (p_load (i := 2) (v := .int .i64 cc.hand) rfl rfl sh3 rfl) rfl rfl rfl (fun _ hw => HeapIs.drop (HeapIs.toE (i := 3) (m := cc.frames.length) (T := tFrame) rfl (by simp only [List.length_set]) hw) (List.Sublist.refl _)) rfl ?_
        refine h_take (i := 10) (ls := #[true, true, true, true, true, true, true, true, true, true, true, false, false]) rfl (by kernel_rfl) (by kernel_rfl) (by kernel_rfl) (fun _ _ _ h => h) (p_indexAddrE (T := tFrame) (i := cc.hand) (j := 3) rfl rfl rfl Try.underlying57 sz73 (by omega) (by omega)) rfl rfl rfl (fun _ hw => HeapIs.drop (HeapIs.toE (i := 3) (m := cc.frames.length) (T := tFrame) rfl (by simp only [List.length_set]) hw) (List.Sublist.refl _)) rfl ?_
        refine h_take (i := 11) (ls := #[true, true, true, true, true, true, true, true, true, true, true, true, false]) rfl (by kernel_rfl) (by kernel_rfl) (by kernel_rfl) (fun _ _ _ h => h) (p_fieldAddrE rfl fo73_1) rfl rfl rfl (fun _ hw => HeapIs.drop (HeapIs.toE (i := 3) (m := cc.frames.length) (T := tFrame) rfl (by simp only [List.length_set]) hw) (List.Sublist.refl _)) rfl ?_
        refine h_one (i := 12) (ls := #[true, true, true, true, true, true, true, true, true, true, true, true, true]) (by kernel_rfl) rfl rfl ?_
        refine o_storeF (j := 1) (i := 3) (T := tFrame) (idx := cc.hand.toNat) (v := .bool false) (vs := [.bool false]) (z := (⟨(cc.frames[cc.hand.toNat]).key, false⟩ : DFrame)) rfl rfl rfl rfl (by first | assumption | omega | (simp only [List.length_set]; omega)) sz4 rfl rfl rfl rfl (Sub.refl _) ?_
        refine o_nil ?_
        refine h_next (fun _ hw => HeapIs.drop (HeapIs.toE (i := 3) (m := cc.frames.length) (T := tFrame) rfl (by simp only [List.length_set]) hw) (List.Sublist.refl _)) ?_
        refine h_done (by kernel_rfl) ?_
        refine q_cast (F' := [(0, .pointer (some ⟨Bc, 0, none⟩)), (3, .pointer (some ⟨B1, 0, none⟩))]) (H := [box B1 [.int .i64 key] 3, outer w0 [box Bc [.int .i64 c.room, .int .i64 c.hand, .slice ac_0 c.frames.length cc_0] 122, own tFrame Sc_0 ac_0 cc_0 c.frames], box Bc [.int .i64 cc.room, .int .i64 cc.hand, .slice acc_0 cc.frames.length ccc_0] 122, own tFrame Scc_0 acc_0 ccc_0 (cc.frames.set cc.hand.toNat (⟨(cc.frames[cc.hand.toNat]).key, false⟩ : DFrame))]) (H' := [box B1 [.int .i64 key] 3, outer w0 [box Bc [.int .i64 c.room, .int .i64 c.hand, .slice ac_0 c.frames.length cc_0] 122, own tFrame Sc_0 ac_0 cc_0 c.frames], box Bc [.int .i64 cc.room, .int .i64 cc.hand, .slice acc_0 (cc.frames.set cc.hand.toNat (⟨(cc.frames[cc.hand.toNat]).key, false⟩ : DFrame)).length ccc_0] 122, own tFrame Scc_0 acc_0 ccc_0 (cc.frames.set cc.hand.toNat (⟨(cc.frames[cc.hand.toNat]).key, false⟩ : DFrame))]) (Sub.cons rfl (Sub.cons rfl (Sub.nil _))) (by simp only [List.length_set, List.length_reverse]) ?_
        refine q_then ?_
        refine c_region ?_
        refine o_pure (p_move (v := .pointer (some ⟨Bc, 0, none⟩)) rfl) rfl rfl rfl ?_
        refine o_pick (H' := [box Bc [.int .i64 cc.room, .int .i64 cc.hand, .slice acc_0 (cc.frames.set cc.hand.toNat (⟨(cc.frames[cc.hand.toNat]).key, false⟩ : DFrame)).length ccc_0] 122, own tFrame Scc_0 acc_0 ccc_0 (cc.frames.set cc.hand.toNat (⟨(cc.frames[cc.hand.toNat]).key, false⟩ : DFrame)), box B1 [.int .i64 key] 3, outer w0 [box Bc [.int .i64 c.room, .int .i64 c.hand, .slice ac_0 c.frames.length cc_0] 122, own tFrame Sc_0 ac_0 cc_0 c.frames]]) [2, 3, 0, 1] (by decide) rfl ?_
        refine o_callX (pre := [box Bc [.int .i64 cc.room, .int .i64 cc.hand, .slice acc_0 (cc.frames.set cc.hand.toNat (⟨(cc.frames[cc.hand.toNat]).key, false⟩ : DFrame)).length ccc_0] 122, own tFrame Scc_0 acc_0 ccc_0 (cc.frames.set cc.hand.toNat (⟨(cc.frames[cc.hand.toNat]).key, false⟩ : DFrame))]) (R := [box B1 [.int .i64 key] 3, outer w0 [box Bc [.int .i64 c.room, .int .i64 c.hand, .slice ac_0 c.frames.length cc_0] 122, own tFrame Sc_0 ac_0 cc_0 c.frames]]) rfl (step_ok (⟨cc.room, cc.hand, (cc.frames.set cc.hand.toNat (⟨(cc.frames[cc.hand.toNat]).key, false⟩ : DFrame))⟩ : DClock) Bc acc_0 ccc_0 Scc_0 (by (try dsimp only); (try simp only [List.length_set]); omega)) hf108 rfl (fun _ _ => trivial) rfl ?_
        rintro ⟨a9, c10, S11⟩
        refine o_asH (H' := [box Bc [.int .i64 cc.room, .int .i64 ((cc.hand + 1).tmod ((cc.frames.set cc.hand.toNat (⟨(cc.frames[cc.hand.toNat]).key, false⟩ : DFrame)).length : Int)), .slice a9 (cc.frames.set cc.hand.toNat (⟨(cc.frames[cc.hand.toNat]).key, false⟩ : DFrame)).length c10] 122, own tFrame S11 a9 c10 (cc.frames.set cc.hand.toNat (⟨(cc.frames[cc.hand.toNat]).key, false⟩ : DFrame)), box B1 [.int .i64 key] 3, outer w0 [box Bc [.int .i64 c.room, .int .i64 c.hand, .slice ac_0 c.frames.length cc_0] 122, own tFrame Sc_0 ac_0 cc_0 c.frames]]) rfl ?_
        refine o_nil ?_
        refine q_block_normal ?_
        refine q_round hK6 ((⟨cc.room, (cc.hand + 1).tmod ((cc.frames.set cc.hand.toNat (⟨(cc.frames[cc.hand.toNat]).key, false⟩ : DFrame)).length : Int), (cc.frames.set cc.hand.toNat (⟨(cc.frames[cc.hand.toNat]).key, false⟩ : DFrame))⟩ : DClock), a9, c10, S11) ?_ ?_ ?_ ?_
        · clear hK6
          exact (hI.next hhl (by assumption)).1
        · exact (hI.next hhl (by assumption)).2
        · exact Sub.cons rfl (Sub.cons rfl (Sub.nil _))
        · exact fun _ hw => HeapIs.pick hw [2, 3, 0, 1] (by decide) rfl
      · skip
        refine c_exit ?_
        refine q_then_exit (q_then_exit (q_block_exit (q_then ?_)))
        refine c_seq ?_
        refine c_draw hmix (by kernel_rfl) ?_
        refine w_pure (p_move (v := .pointer (some ⟨Bc, 0, none⟩)) rfl) rfl rfl rfl ?_
        refine w_pure (p_nilCheck rfl) rfl rfl rfl ?_
        refine w_pure (p_fieldAddr (B := Bc) (j := 0) (j' := 0) rfl fo122_0 rfl) rfl rfl rfl ?_
        refine w_pure (p_fieldAddr (B := Bc) (j := 0) (j' := 2) rfl fo59_2 rfl) rfl rfl rfl ?_
        refine w_pure (p_load (i := 2) (v := .slice acc_0 cc.frames.length ccc_0) rfl rfl sh57 rfl) rfl rfl rfl ?_
        refine w_pure (p_move (v := .pointer (some ⟨Bc, 0, none⟩)) rfl) rfl rfl rfl ?_
        refine w_pure (p_nilCheck rfl) rfl rfl rfl ?_
        refine w_pure (p_fieldAddr (B := Bc) (j := 0) (j' := 0) rfl fo122_0 rfl) rfl rfl rfl ?_
        refine w_pure (p_fieldAddr (B := Bc) (j := 0) (j' := 1) rfl fo59_1 rfl) rfl rfl rfl ?_
        refine w_pure (p_load (i := 2) (v := .int .i64 cc.hand) rfl rfl sh3 rfl) rfl rfl rfl ?_
        refine w_pure (p_indexAddr (L := cc.frames) (T := tFrame) (i := cc.hand) rfl rfl (rd_own (i := 3) rfl) Try.underlying57 sz73 (by omega) (by omega)) rfl rfl rfl ?_
        refine w_pure (p_fieldAddrE rfl fo73_0) rfl rfl rfl ?_
        refine w_pure (p_loadF (i := cc.hand.toNat) (j := 0) (T := tFrame) (L := cc.frames) (v := .int .i64 ((cc.frames[cc.hand.toNat]).key)) rfl (rd_own (i := 3) rfl) (by first | assumption | omega) sh3 rfl) rfl rfl rfl ?_
        refine w_pure (p_assign (v := .int .i64 ((cc.frames[cc.hand.toNat]).key)) rfl) rfl rfl rfl ?_
        refine w_nil ?_
        refine q_then ?_
        refine c_seq ?_
        refine c_held hmix [box B1 [.int .i64 key] 3, outer w0 [box Bc [.int .i64 c.room, .int .i64 c.hand, .slice ac_0 c.frames.length cc_0] 122, own tFrame Sc_0 ac_0 cc_0 c.frames], box Bc [.int .i64 cc.room, .int .i64 cc.hand, .slice acc_0 cc.frames.length ccc_0] 122, ownE tFrame Scc_0 acc_0 ccc_0 (cc.frames.length)] rfl rfl ?_
        refine h_take (i := 0) (ls := #[true, false, false, false, false, false, false, false, false, false, false, false, false, false]) rfl (by kernel_rfl) (by kernel_rfl) (by kernel_rfl) (fun _ _ _ h => h) (p_move (v := .pointer (some ⟨Bc, 0, none⟩)) rfl) rfl rfl rfl (fun _ hw => HeapIs.drop (HeapIs.toE (i := 3) (m := cc.frames.length) (T := tFrame) rfl (by simp only [List.length_set]) hw) (List.Sublist.refl _)) rfl ?_
        refine h_take (i := 1) (ls := #[true, true, false, false, false, false, false, false, false, false, false, false, false, false]) rfl (by kernel_rfl) (by kernel_rfl) (by kernel_rfl) (fun _ _ _ h => h) (p_nilCheck rfl) rfl rfl rfl (fun _ hw => HeapIs.drop (HeapIs.toE (i := 3) (m := cc.frames.length) (T := tFrame) rfl (by simp only [List.length_set]) hw) (List.Sublist.refl _)) rfl ?_
        refine h_take (i := 2) (ls := #[true, true, true, false, false, false, false, false, false, false, false, false, false, false]) rfl (by kernel_rfl) (by kernel_rfl) (by kernel_rfl) (fun _ _ _ h => h) (p_fieldAddr (B := Bc) (j := 0) (j' := 0) rfl fo122_0 rfl) rfl rfl rfl (fun _ hw => HeapIs.drop (HeapIs.toE (i := 3) (m := cc.frames.length) (T := tFrame) rfl (by simp only [List.length_set]) hw) (List.Sublist.refl _)) rfl ?_
        refine h_take (i := 3) (ls := #[true, true, true, true, false, false, false, false, false, false, false, false, false, false]) rfl (by kernel_rfl) (by kernel_rfl) (by kernel_rfl) (fun _ _ _ h => h) (p_fieldAddr (B := Bc) (j := 0) (j' := 2) rfl fo59_2 rfl) rfl rfl rfl (fun _ hw => HeapIs.drop (HeapIs.toE (i := 3) (m := cc.frames.length) (T := tFrame) rfl (by simp only [List.length_set]) hw) (List.Sublist.refl _)) rfl ?_
        refine h_take (i := 4) (ls := #[true, true, true, true, true, false, false, false, false, false, false, false, false, false]) rfl (by kernel_rfl) (by kernel_rfl) (by kernel_rfl) (fun _ _ _ h => h) (p_load (i := 2) (v := .slice acc_0 cc.frames.length ccc_0) rfl rfl sh57 rfl) rfl rfl rfl (fun _ hw => HeapIs.drop (HeapIs.toE (i := 3) (m := cc.frames.length) (T := tFrame) rfl (by simp only [List.length_set]) hw) (List.Sublist.refl _)) rfl ?_
        refine h_take (i := 5) (ls := #[true, true, true, true, true, true, false, false, false, false, false, false, false, false]) rfl (by kernel_rfl) (by kernel_rfl) (by kernel_rfl) (fun _ _ _ h => h) (p_move (v := .pointer (some ⟨Bc, 0, none⟩)) rfl) rfl rfl rfl (fun _ hw => HeapIs.drop (HeapIs.toE (i := 3) (m := cc.frames.length) (T := tFrame) rfl (by simp only [List.length_set]) hw) (List.Sublist.refl _)) rfl ?_
        refine h_take (i := 6) (ls := #[true, true, true, true, true, true, true, false, false, false, false, false, false, false]) rfl (by kernel_rfl) (by kernel_rfl) (by kernel_rfl) (fun _ _ _ h => h) (p_nilCheck rfl) rfl rfl rfl (fun _ hw => HeapIs.drop (HeapIs.toE (i := 3) (m := cc.frames.length) (T := tFrame) rfl (by simp only [List.length_set]) hw) (List.Sublist.refl _)) rfl ?_
        refine h_take (i := 7) (ls := #[true, true, true, true, true, true, true, true, false, false, false, false, false, false]) rfl (by kernel_rfl) (by kernel_rfl) (by kernel_rfl) (fun _ _ _ h => h) (p_fieldAddr (B := Bc) (j := 0) (j' := 0) rfl fo122_0 rfl) rfl rfl rfl (fun _ hw => HeapIs.drop (HeapIs.toE (i := 3) (m := cc.frames.length) (T := tFrame) rfl (by simp only [List.length_set]) hw) (List.Sublist.refl _)) rfl ?_
        refine h_take (i := 8) (ls := #[true, true, true, true, true, true, true, true, true, false, false, false, false, false]) rfl (by kernel_rfl) (by kernel_rfl) (by kernel_rfl) (fun _ _ _ h => h) (p_fieldAddr (B := Bc) (j := 0) (j' := 1) rfl fo59_1 rfl) rfl rfl rfl (fun _ hw => HeapIs.drop (HeapIs.toE (i := 3) (m := cc.frames.length) (T := tFrame) rfl (by simp only [List.length_set]) hw) (List.Sublist.refl _)) rfl ?_
        refine h_take (i := 9) (ls := #[true, true, true, true, true, true, true, true, true, true, false, false, false, false]) rfl (by kernel_rfl) (by kernel_rfl) (by kernel_rfl) (fun _ _ _ h => h) (p_load (i := 2) (v := .int .i64 cc.hand) rfl rfl sh3 rfl) rfl rfl rfl (fun _ hw => HeapIs.drop (HeapIs.toE (i := 3) (m := cc.frames.length) (T := tFrame) rfl (by simp only [List.length_set]) hw) (List.Sublist.refl _)) rfl ?_
        refine h_take (i := 10) (ls := #[true, true, true, true, true, true, true, true, true, true, true, false, false, false]) rfl (by kernel_rfl) (by kernel_rfl) (by kernel_rfl) (fun _ _ _ h => h) (p_load (i := 0) (v := .int .i64 key) rfl rfl sh3 rfl) rfl rfl rfl (fun _ hw => HeapIs.drop (HeapIs.toE (i := 3) (m := cc.frames.length) (T := tFrame) rfl (by simp only [List.length_set]) hw) (List.Sublist.refl _)) rfl ?_
        refine h_take (i := 11) (ls := #[true, true, true, true, true, true, true, true, true, true, true, true, false, false]) rfl (by kernel_rfl) (by kernel_rfl) (by kernel_rfl) (fun _ _ _ h => h) (p_build (cells := [.int .i64 key, .bool false]) fp73 ze73 rfl rfl) rfl rfl rfl (fun _ hw => HeapIs.drop (HeapIs.toE (i := 3) (m := cc.frames.length) (T := tFrame) rfl (by simp only [List.length_set]) hw) (List.Sublist.refl _)) rfl ?_
        refine h_take (i := 12) (ls := #[true, true, true, true, true, true, true, true, true, true, true, true, true, false]) rfl (by kernel_rfl) (by kernel_rfl) (by kernel_rfl) (fun _ _ _ h => h) (p_indexAddrE (T := tFrame) (i := cc.hand) (j := 3) rfl rfl rfl Try.underlying57 sz73 (by omega) (by omega)) rfl rfl rfl (fun _ hw => HeapIs.drop (HeapIs.toE (i := 3) (m := cc.frames.length) (T := tFrame) rfl (by simp only [List.length_set]) hw) (List.Sublist.refl _)) rfl ?_
        refine h_one (i := 13) (ls := #[true, true, true, true, true, true, true, true, true, true, true, true, true, true]) (by kernel_rfl) rfl rfl ?_
        refine o_storeW (i := 3) (T := tFrame) (idx := cc.hand.toNat) (v := .agg #[.int .i64 key, .bool false]) (vs := [.int .i64 key, .bool false]) (z := (⟨key, false⟩ : DFrame)) rfl rfl rfl rfl (by first | assumption | omega | (simp only [List.length_set]; omega)) sz73 rfl rfl rfl rfl (Sub.refl _) ?_
        refine o_nil ?_
        refine h_next (fun _ hw => HeapIs.drop (HeapIs.toE (i := 3) (m := cc.frames.length) (T := tFrame) rfl (by simp only [List.length_set]) hw) (List.Sublist.refl _)) ?_
        refine h_done (by kernel_rfl) ?_
        refine q_cast (F' := [(0, .pointer (some ⟨Bc, 0, none⟩)), (7, .int .i64 ((cc.frames[cc.hand.toNat]).key))]) (H := [box B1 [.int .i64 key] 3, outer w0 [box Bc [.int .i64 c.room, .int .i64 c.hand, .slice ac_0 c.frames.length cc_0] 122, own tFrame Sc_0 ac_0 cc_0 c.frames], box Bc [.int .i64 cc.room, .int .i64 cc.hand, .slice acc_0 cc.frames.length ccc_0] 122, own tFrame Scc_0 acc_0 ccc_0 (cc.frames.set cc.hand.toNat (⟨key, false⟩ : DFrame))]) (H' := [box B1 [.int .i64 key] 3, outer w0 [box Bc [.int .i64 c.room, .int .i64 c.hand, .slice ac_0 c.frames.length cc_0] 122, own tFrame Sc_0 ac_0 cc_0 c.frames], box Bc [.int .i64 cc.room, .int .i64 cc.hand, .slice acc_0 (cc.frames.set cc.hand.toNat (⟨key, false⟩ : DFrame)).length ccc_0] 122, own tFrame Scc_0 acc_0 ccc_0 (cc.frames.set cc.hand.toNat (⟨key, false⟩ : DFrame))]) (Sub.cons rfl (Sub.cons rfl (Sub.nil _))) (by simp only [List.length_set, List.length_reverse]) ?_
        refine q_then ?_
        refine c_seq ?_
        refine c_region ?_
        refine o_pure (p_move (v := .pointer (some ⟨Bc, 0, none⟩)) rfl) rfl rfl rfl ?_
        refine o_pick (H' := [box Bc [.int .i64 cc.room, .int .i64 cc.hand, .slice acc_0 (cc.frames.set cc.hand.toNat (⟨key, false⟩ : DFrame)).length ccc_0] 122, own tFrame Scc_0 acc_0 ccc_0 (cc.frames.set cc.hand.toNat (⟨key, false⟩ : DFrame)), box B1 [.int .i64 key] 3, outer w0 [box Bc [.int .i64 c.room, .int .i64 c.hand, .slice ac_0 c.frames.length cc_0] 122, own tFrame Sc_0 ac_0 cc_0 c.frames]]) [2, 3, 0, 1] (by decide) rfl ?_
        refine o_callX (pre := [box Bc [.int .i64 cc.room, .int .i64 cc.hand, .slice acc_0 (cc.frames.set cc.hand.toNat (⟨key, false⟩ : DFrame)).length ccc_0] 122, own tFrame Scc_0 acc_0 ccc_0 (cc.frames.set cc.hand.toNat (⟨key, false⟩ : DFrame))]) (R := [box B1 [.int .i64 key] 3, outer w0 [box Bc [.int .i64 c.room, .int .i64 c.hand, .slice ac_0 c.frames.length cc_0] 122, own tFrame Sc_0 ac_0 cc_0 c.frames]]) rfl (step_ok (⟨cc.room, cc.hand, (cc.frames.set cc.hand.toNat (⟨key, false⟩ : DFrame))⟩ : DClock) Bc acc_0 ccc_0 Scc_0 (by (try dsimp only); (try simp only [List.length_set]); omega)) hf108 rfl (fun _ _ => trivial) rfl ?_
        rintro ⟨a14, c15, S16⟩
        refine o_asH (H' := [box Bc [.int .i64 cc.room, .int .i64 ((cc.hand + 1).tmod ((cc.frames.set cc.hand.toNat (⟨key, false⟩ : DFrame)).length : Int)), .slice a14 (cc.frames.set cc.hand.toNat (⟨key, false⟩ : DFrame)).length c15] 122, own tFrame S16 a14 c15 (cc.frames.set cc.hand.toNat (⟨key, false⟩ : DFrame)), box B1 [.int .i64 key] 3, outer w0 [box Bc [.int .i64 c.room, .int .i64 c.hand, .slice ac_0 c.frames.length cc_0] 122, own tFrame Sc_0 ac_0 cc_0 c.frames]]) rfl ?_
        refine o_nil ?_
        refine q_then ?_
        refine c_seq ?_
        refine c_region ?_
        refine o_pure (p_move (v := .int .i64 ((cc.frames[cc.hand.toNat]).key)) rfl) rfl rfl rfl ?_
        refine o_pure (p_assign (v := .bool false) rfl) rfl rfl rfl ?_
        refine o_pure (p_assign (v := .int .i64 ((cc.frames[cc.hand.toNat]).key)) rfl) rfl rfl rfl ?_
        refine o_nil ?_
        refine q_then ?_
        refine c_ret ?_
        first
          | have ht := Clock.touch_hit (c := c) (key := key) (by assumption)
          | have ht := Clock.touch_room (c := c) (key := key) (by omega) (by omega)
          | have ht := Clock.touch_evict (key := key) hI (by omega) (by omega) hhl (by assumption)
        have hr0 : (cc.room : Int) = ((Clock.touch c key).1).room := by
          simp only [ht, List.length_set]
        have hr1 : ((cc.hand + 1).tmod ((cc.frames.set cc.hand.toNat (⟨key, false⟩ : DFrame)).length : Int) : Int) = ((Clock.touch c key).1).hand := by
          simp only [ht, List.length_set]
        have hr2 : ((cc.frames.set cc.hand.toNat (⟨key, false⟩ : DFrame)) : List DFrame) = ((Clock.touch c key).1).frames := by
          simp only [ht, List.length_set]
        have hr3 : (false : Bool) = ((Clock.touch c key).2.1) := by
          simp only [ht, List.length_set]
        have hr4 : ((cc.frames[cc.hand.toNat]).key : Int) = ((Clock.touch c key).2.2) := by
          simp only [ht, List.length_set]
        refine q_endX (p := (a14, c15, S16)) (rt2 rfl (r_tmp rfl) (r_tmp rfl)) ?_ (fun w hw => ?_)
        · exact (by have hcc := congr (congr (congr (congr (congrArg (fun (y0 : Int) (y1 : Int) (y2 : List DFrame) (y3 : Bool) (y4 : Int) => (.tuple #[.bool y3, .int .i64 y4] : Value)) hr0) hr1) hr2) hr3) hr4; exact hcc)
        · have h2 := hw.pick (H' := [outer w0 [box Bc [.int .i64 c.room, .int .i64 c.hand, .slice ac_0 c.frames.length cc_0] 122, own tFrame Sc_0 ac_0 cc_0 c.frames], box Bc [.int .i64 cc.room, .int .i64 ((cc.hand + 1).tmod ((cc.frames.set cc.hand.toNat (⟨key, false⟩ : DFrame)).length : Int)), .slice a14 (cc.frames.set cc.hand.toNat (⟨key, false⟩ : DFrame)).length c15] 122, own tFrame S16 a14 c15 (cc.frames.set cc.hand.toNat (⟨key, false⟩ : DFrame))]) [3, 0, 1] (by decide) rfl
          exact Eq.mp (congrArg (fun z => HeapIs w0 ((outer w0 [box Bc [.int .i64 c.room, .int .i64 c.hand, .slice ac_0 c.frames.length cc_0] 122, own tFrame Sc_0 ac_0 cc_0 c.frames]) :: z) w) ((by have hcc := congr (congr (congr (congr (congrArg (fun (y0 : Int) (y1 : Int) (y2 : List DFrame) (y3 : Bool) (y4 : Int) => ([box Bc [.int .i64 y0, .int .i64 y1, .slice a14 y2.length c15] 122, own tFrame S16 a14 c15 y2] : List Ent)) hr0) hr1) hr2) hr3) hr4; exact hcc))) h2
end Go.Proofs.Ythbfdhphnofacab
