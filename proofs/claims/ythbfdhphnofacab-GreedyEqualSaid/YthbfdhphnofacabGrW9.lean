/- The walks, printed by a program from the translation and a specification. -/
import Derived.Test.YthbfdhphnofacabGrF
import Derived.Test.YthbfdhphnofacabGrLaw3
import Derived.Test.YthbfdhphnofacabGrW5
namespace Go.Proofs.Ythbfdhphnofacab
open Go.Sx Go.RowKit
set_option maxHeartbeats 8000000 in
set_option maxRecDepth 100000 in
theorem greedyEqual_ok (room : Int) (l : List Int) (al : Option Addr) (cl : Nat) : Fn0 Try.prog 8 [.int .i64 room, .slice al l.length cl] (fun w => Rd tInt w al cl l) (.bool true) := by
  refine fn0 (nt := 95) (F0 := [(0, .int .i64 room), (1, .slice al l.length cl)]) Try.func8 rfl Try.ntmps8 rfl rfl (fun w0 hpre => ?_)
  have hl := hpre
  have hlhl := hl.2.1
  refine c_seq ?_
  refine c_region ?_
  refine o_pure (p_assign (v := .bool false) rfl) rfl rfl rfl ?_
  refine o_nil ?_
  refine q_then ?_
  refine c_seq ?_
  refine c_seq ?_
  refine c_region ?_
  refine o_call0 (v := .bool true) rfl (hoardBegun_ok ) hf32 (fun _ _ => trivial) rfl ?_
  refine o_pure (p_not (b := true) rfl) rfl rfl rfl ?_
  refine o_nil ?_
  refine q_then ?_
  refine c_false rfl ?_
  refine c_skip ?_
  refine q_then ?_
  refine c_seq ?_
  refine c_seq ?_
  refine c_region ?_
  refine o_pure (p_move (v := .int .i64 room) rfl) rfl rfl rfl ?_
  refine o_pure (p_lt (p := room) (q := 1) rfl rfl) rfl rfl rfl ?_
  refine o_pure (p_move (v := .bool (decide (room < 1))) rfl) rfl rfl rfl ?_
  refine o_or (p := 20) 3 (decide (40 < room)) ?_ ?_ ?_
  · intro hb1 hk
    simp only [decide_eq_false_iff_not, Int.not_lt] at hb1
    refine o_unguard 17 rfl rfl ?_
    refine o_pure (p_move (v := .int .i64 room) rfl) rfl rfl rfl ?_
    refine o_unguard 17 rfl rfl ?_
    refine o_pure (p_gt (p := room) (q := 40) rfl rfl) rfl rfl rfl ?_
    refine o_pure (p_pick_false (v := .bool (decide (40 < room))) rfl rfl) rfl rfl rfl ?_
    exact o_sub (Sub.cons rfl (Sub.skip rfl (Sub.skip rfl (Sub.skip rfl (Sub.skip rfl (Sub.refl _)))))) hk
  · intro hb1 hk
    refine o_guard_no rfl 17 rfl rfl rfl rfl rfl ?_
    refine o_guard_no rfl 17 rfl rfl rfl rfl rfl ?_
    refine o_pure (p_pick_true (u := .bool true) rfl rfl) rfl rfl rfl ?_
    exact o_sub (Sub.cons rfl (Sub.skip rfl (Sub.skip rfl (Sub.skip rfl (Sub.skip rfl (Sub.refl _)))))) hk
  refine o_nil ?_
  refine q_then ?_
  refine c_cond (b := (decide (room < 1) || decide (40 < room))) rfl (fun hc2 => ?_) (fun hc2 => ?_)
  · simp only [Bool.or_eq_true, decide_eq_true_eq] at hc2
    refine c_seq ?_
    refine c_region ?_
    refine o_pure (p_assign (v := .bool true) rfl) rfl rfl rfl ?_
    refine o_nil ?_
    refine q_then ?_
    refine c_ret ?_
    refine q_then_ret ?_
    refine q_end0 (v := .bool true) (rt1 rfl (r_tmp rfl)) (i := 0) rfl ?_
    exact rfl
  · simp only [Bool.or_eq_false_iff, decide_eq_false_iff_not, Int.not_lt] at hc2
    refine c_skip ?_
    refine q_then ?_
    refine c_seq ?_
    refine c_region ?_
    refine o_pure (p_move (v := .int .i64 room) rfl) rfl rfl rfl ?_
    refine o_pure (p_build (cells := [.int .i64 room, .int .i64 0, .slice none 0 0]) fp39 ze39 rfl rfl) rfl rfl rfl ?_
    refine o_alloc ze39 rfl (fun B3 => ?_)
    refine o_storeN (i := 0) (vs := [.int .i64 room, .int .i64 0, .slice none 0 0]) (cs' := [.int .i64 room, .int .i64 0, .slice none 0 0]) rfl rfl rfl sz39 rfl rfl rfl rfl ?_
    refine o_nil ?_
    refine q_then ?_
    refine c_seq ?_
    refine c_seq ?_
    refine c_region ?_
    refine o_pure (p_assign (v := .int .i64 0) rfl) rfl rfl rfl ?_
    refine o_nil ?_
    refine q_then ?_
    refine c_block ?_
    refine c_heap (H' := [loose tItem (False) (fun _ => False) none 0 ([]), box B3 [.int .i64 room, .int .i64 0, .slice none 0 0] 39, base w0]) (fun w hw => HeapIs.looseNil tItem hw) ?_
    refine c_loop (St := Nat × DGreedy × Option Addr × Nat × (Nat → Prop))
      (fun ⟨i, hh, ahh_0, chh_0, Shh_0⟩ => [(0, .int .i64 room), (1, .slice al l.length cl), (5, .pointer (some ⟨B3, 0, none⟩)), (6, .int .i64 (i : Int))])
      (fun ⟨i, hh, ahh_0, chh_0, Shh_0⟩ => [loose tItem (False) Shh_0 ahh_0 chh_0 hh.things, box B3 [.int .i64 hh.room, .int .i64 hh.floor, .slice ahh_0 hh.things.length chh_0] 39, base w0])
      (fun ⟨i, hh, ahh_0, chh_0, Shh_0⟩ => Greedy.Ones room hh ∧ i ≤ l.length)
      (fun ⟨i, hh, ahh_0, chh_0, Shh_0⟩ => l.length - i)
      (0, (⟨room, 0, []⟩ : DGreedy), none, 0, (fun _ => False)) ?_ (Sub.cons rfl (Sub.cons rfl (Sub.cons rfl (Sub.cons rfl (Sub.nil _))))) (fun _ hw => hw) ?_
    · exact ⟨Greedy.Ones.start (by omega), Nat.zero_le _⟩
    rintro ⟨i, hh, ahh_0, chh_0, Shh_0⟩ hI K hK5
    have hO := hI
    show SC _ _ Try.prog 95 w0 _ _ [(0, .int .i64 room), (1, .slice al l.length cl), (5, .pointer (some ⟨B3, 0, none⟩)), (6, .int .i64 (i : Int))] [loose tItem (False) Shh_0 ahh_0 chh_0 hh.things, box B3 [.int .i64 hh.room, .int .i64 hh.floor, .slice ahh_0 hh.things.length chh_0] 39, base w0]
    refine c_seq ?_
    refine c_seq ?_
    refine c_region ?_
    refine o_pure (p_move (v := .int .i64 (i : Int)) rfl) rfl rfl rfl ?_
    refine o_pure (p_move (v := .slice al l.length cl) rfl) rfl rfl rfl ?_
    refine o_pure (p_len_slice (len := l.length) rfl rfl Try.underlying22) rfl rfl rfl ?_
    refine o_pure (p_lt (p := (i : Int)) (q := (l.length : Int)) rfl rfl) rfl rfl rfl ?_
    refine o_pure (p_move (v := .bool (decide ((i : Int) < (l.length : Int)))) rfl) rfl rfl rfl ?_
    refine o_and (p := 30) 3 (decide ((i : Int) < 100)) ?_ ?_ ?_
    · intro hb6 hk
      simp only [decide_eq_true_eq] at hb6
      refine o_unguard 27 rfl rfl ?_
      refine o_pure (p_move (v := .int .i64 (i : Int)) rfl) rfl rfl rfl ?_
      refine o_unguard 27 rfl rfl ?_
      refine o_pure (p_lt (p := (i : Int)) (q := 100) rfl rfl) rfl rfl rfl ?_
      refine o_pure (p_pick_true (u := .bool (decide ((i : Int) < 100))) rfl rfl) rfl rfl rfl ?_
      exact o_sub (Sub.cons rfl (Sub.skip rfl (Sub.skip rfl (Sub.skip rfl (Sub.skip rfl (Sub.refl _)))))) hk
    · intro hb6 hk
      refine o_guard_no rfl 27 rfl rfl rfl rfl rfl ?_
      refine o_guard_no rfl 27 rfl rfl rfl rfl rfl ?_
      refine o_pure (p_pick_false (v := .bool false) rfl rfl) rfl rfl rfl ?_
      exact o_sub (Sub.cons rfl (Sub.skip rfl (Sub.skip rfl (Sub.skip rfl (Sub.skip rfl (Sub.refl _)))))) hk
    refine o_nil ?_
    refine q_then ?_
    refine c_cond (b := (decide ((i : Int) < (l.length : Int)) && decide ((i : Int) < 100))) rfl (fun hc7 => ?_) (fun hc7 => ?_)
    · simp only [Bool.and_eq_true, decide_eq_true_eq] at hc7
      refine c_skip ?_
      refine q_then ?_
      refine c_seq ?_
      refine c_block ?_
      refine c_seq ?_
      refine c_cut (G := (Nat → Prop) × Option Addr × Nat × Option Addr × Nat × Nat) (fun ⟨S8_6, a8_6, c8_6, a8_6_1, c8_6_1, B8_12⟩ => [(0, .int .i64 room), (1, .slice al l.length cl), (5, .pointer (some ⟨B3, 0, none⟩)), (6, .int .i64 (i : Int)), (7, .pointer (some ⟨B8_12, 0, none⟩)), (9, .slice a8_6_1 ((Greedy.access hh (⟨l[i], 1, 1, 0⟩ : DItem)).2.2).length c8_6_1), (10, .int .i64 (Greedy.accessErr hh (⟨l[i], 1, 1, 0⟩ : DItem)))]) (fun ⟨S8_6, a8_6, c8_6, a8_6_1, c8_6_1, B8_12⟩ => [box B8_12 [.int .i64 (((Greedy.access hh (⟨l[i], 1, 1, 0⟩ : DItem)).1).room), .int .i64 (((Greedy.access hh (⟨l[i], 1, 1, 0⟩ : DItem)).1).floor), .slice a8_6 (((Greedy.access hh (⟨l[i], 1, 1, 0⟩ : DItem)).1).things).length c8_6] 39, ⟨S8_6, fun w => SlR tItem S8_6 w a8_6 c8_6 (((Greedy.access hh (⟨l[i], 1, 1, 0⟩ : DItem)).1).things) ∧ SlR tInt S8_6 w a8_6_1 c8_6_1 ((Greedy.access hh (⟨l[i], 1, 1, 0⟩ : DItem)).2.2)⟩, loose tItem (False) Shh_0 ahh_0 chh_0 hh.things, box B3 [.int .i64 hh.room, .int .i64 hh.floor, .slice ahh_0 hh.things.length chh_0] 39, base w0]) (fun K hK9 => ?_) ?_
      · refine c_held hmix [loose tItem (False) Shh_0 ahh_0 chh_0 hh.things, box B3 [.int .i64 hh.room, .int .i64 hh.floor, .slice ahh_0 hh.things.length chh_0] 39, base w0] rfl rfl ?_
        refine h_take (i := 0) (ls := #[true, false, false, false, false, false, false, false, false, false, false, false, false, false, false, false, false]) rfl (by kernel_rfl) (by kernel_rfl) (by kernel_rfl) (fun _ _ _ h => h) (p_load_agg (i := 1) (vs := [.int .i64 hh.room, .int .i64 hh.floor, .slice ahh_0 hh.things.length chh_0]) rfl rfl sh39 rfl rfl) rfl rfl rfl (fun _ hw => HeapIs.drop hw (List.Sublist.refl _)) rfl ?_
        refine h_take (i := 1) (ls := #[true, true, false, false, false, false, false, false, false, false, false, false, false, false, false, false, false]) rfl (by kernel_rfl) (by kernel_rfl) (by kernel_rfl) (fun _ _ _ h => h) (p_move (v := .slice al l.length cl) rfl) rfl rfl rfl (fun _ hw => HeapIs.drop hw (List.Sublist.refl _)) rfl ?_
        refine h_take (i := 2) (ls := #[true, true, true, false, false, false, false, false, false, false, false, false, false, false, false, false, false]) rfl (by kernel_rfl) (by kernel_rfl) (by kernel_rfl) (fun _ _ _ h => h) (p_move (v := .int .i64 (i : Int)) rfl) rfl rfl rfl (fun _ hw => HeapIs.drop hw (List.Sublist.refl _)) rfl ?_
        refine h_take (i := 3) (ls := #[true, true, true, true, false, false, false, false, false, false, false, false, false, false, false, false, false]) rfl (by kernel_rfl) (by kernel_rfl) (by kernel_rfl) (fun _ _ _ h => h) (p_indexAddr (L := l) (T := tInt) (i := (i : Int)) rfl rfl (rd_base (i := 2) rfl hl) Try.underlying22 sz3 (by omega) (by omega)) rfl rfl rfl (fun _ hw => HeapIs.drop hw (List.Sublist.refl _)) rfl ?_
        refine h_take (i := 4) (ls := #[true, true, true, true, true, false, false, false, false, false, false, false, false, false, false, false, false]) rfl (by kernel_rfl) (by kernel_rfl) (by kernel_rfl) (fun _ _ _ h => h) (p_loadE1 (i := i) (T := tInt) (L := l) (v := .int .i64 (l[i])) rfl (rd_base (i := 2) rfl hl) (by first | assumption | omega) sh3 rfl) rfl rfl rfl (fun _ hw => HeapIs.drop hw (List.Sublist.refl _)) rfl ?_
        refine h_take (i := 5) (ls := #[true, true, true, true, true, true, false, false, false, false, false, false, false, false, false, false, false]) rfl (by kernel_rfl) (by kernel_rfl) (by kernel_rfl) (fun _ _ _ h => h) (p_build (cells := [.int .i64 (l[i]), .int .i64 1, .int .i64 1, .int .i64 0]) fp41 ze41 rfl rfl) rfl rfl rfl (fun _ hw => HeapIs.drop hw (List.Sublist.refl _)) rfl ?_
        refine h_two (i := 6) (j := 12) (ls := #[true, true, true, true, true, true, true, false, false, false, false, false, false, false, false, false, false]) (ls' := #[true, true, true, true, true, true, false, false, false, false, false, false, true, false, false, false, false]) (by kernel_rfl) rfl rfl rfl rfl ?_ ?_
        · refine o_callM rfl (gaccess_ok hh ahh_0 chh_0 (⟨l[i], 1, 1, 0⟩ : DItem)) hf24 (fun w hw => (rd_loose (i := 0) rfl (fun hφ => hφ.elim)) w hw) rfl (fun _ _ _ _ ha hA => ⟨SlR.agree ha hA.1, SlR.agree ha hA.2⟩) ?_
          rintro ⟨a8_6, c8_6, a8_6_1, c8_6_1⟩ S8_6
          refine o_know (fun w hw => (hw.at (i := 0) rfl).here.1.2.1) (fun hlr8_6 => ?_)
          refine o_know (fun w hw => (hw.at (i := 0) rfl).here.2.2.1) (fun hlr8_6_1 => ?_)
          refine o_nil ?_
          refine h_next (fun _ hw => HeapIs.drop hw (List.Sublist.cons _ (List.Sublist.cons_cons _ (List.Sublist.cons_cons _ (List.Sublist.cons_cons _ (List.Sublist.slnil)))))) ?_
          refine h_take (i := 7) (ls := #[true, true, true, true, true, true, true, true, false, false, false, false, false, false, false, false, false]) rfl (by kernel_rfl) (by kernel_rfl) (by kernel_rfl) (fun _ _ _ h => h) (p_move (v := .tuple #[.agg #[.int .i64 (((Greedy.access hh (⟨l[i], 1, 1, 0⟩ : DItem)).1).room), .int .i64 (((Greedy.access hh (⟨l[i], 1, 1, 0⟩ : DItem)).1).floor), .slice a8_6 (((Greedy.access hh (⟨l[i], 1, 1, 0⟩ : DItem)).1).things).length c8_6], .bool ((Greedy.access hh (⟨l[i], 1, 1, 0⟩ : DItem)).2.1), .slice a8_6_1 ((Greedy.access hh (⟨l[i], 1, 1, 0⟩ : DItem)).2.2).length c8_6_1, .int .i64 (Greedy.accessErr hh (⟨l[i], 1, 1, 0⟩ : DItem))]) rfl) rfl rfl rfl (fun _ hw => HeapIs.drop hw (List.Sublist.cons _ (List.Sublist.cons_cons _ (List.Sublist.cons_cons _ (List.Sublist.cons_cons _ (List.Sublist.slnil)))))) rfl ?_
          refine h_take (i := 8) (ls := #[true, true, true, true, true, true, true, true, true, false, false, false, false, false, false, false, false]) rfl (by kernel_rfl) (by kernel_rfl) (by kernel_rfl) (fun _ _ _ h => h) (p_extract (vs := [.agg #[.int .i64 (((Greedy.access hh (⟨l[i], 1, 1, 0⟩ : DItem)).1).room), .int .i64 (((Greedy.access hh (⟨l[i], 1, 1, 0⟩ : DItem)).1).floor), .slice a8_6 (((Greedy.access hh (⟨l[i], 1, 1, 0⟩ : DItem)).1).things).length c8_6], .bool ((Greedy.access hh (⟨l[i], 1, 1, 0⟩ : DItem)).2.1), .slice a8_6_1 ((Greedy.access hh (⟨l[i], 1, 1, 0⟩ : DItem)).2.2).length c8_6_1, .int .i64 (Greedy.accessErr hh (⟨l[i], 1, 1, 0⟩ : DItem))]) (v := .agg #[.int .i64 (((Greedy.access hh (⟨l[i], 1, 1, 0⟩ : DItem)).1).room), .int .i64 (((Greedy.access hh (⟨l[i], 1, 1, 0⟩ : DItem)).1).floor), .slice a8_6 (((Greedy.access hh (⟨l[i], 1, 1, 0⟩ : DItem)).1).things).length c8_6]) rfl rfl) rfl rfl rfl (fun _ hw => HeapIs.drop hw (List.Sublist.cons _ (List.Sublist.cons_cons _ (List.Sublist.cons_cons _ (List.Sublist.cons_cons _ (List.Sublist.slnil)))))) rfl ?_
          refine h_take (i := 9) (ls := #[true, true, true, true, true, true, true, true, true, true, false, false, false, false, false, false, false]) rfl (by kernel_rfl) (by kernel_rfl) (by kernel_rfl) (fun _ _ _ h => h) (p_extract (vs := [.agg #[.int .i64 (((Greedy.access hh (⟨l[i], 1, 1, 0⟩ : DItem)).1).room), .int .i64 (((Greedy.access hh (⟨l[i], 1, 1, 0⟩ : DItem)).1).floor), .slice a8_6 (((Greedy.access hh (⟨l[i], 1, 1, 0⟩ : DItem)).1).things).length c8_6], .bool ((Greedy.access hh (⟨l[i], 1, 1, 0⟩ : DItem)).2.1), .slice a8_6_1 ((Greedy.access hh (⟨l[i], 1, 1, 0⟩ : DItem)).2.2).length c8_6_1, .int .i64 (Greedy.accessErr hh (⟨l[i], 1, 1, 0⟩ : DItem))]) (v := .bool ((Greedy.access hh (⟨l[i], 1, 1, 0⟩ : DItem)).2.1)) rfl rfl) rfl rfl rfl (fun _ hw => HeapIs.drop hw (List.Sublist.cons _ (List.Sublist.cons_cons _ (List.Sublist.cons_cons _ (List.Sublist.cons_cons _ (List.Sublist.slnil)))))) rfl ?_
          refine h_take (i := 10) (ls := #[true, true, true, true, true, true, true, true, true, true, true, false, false, false, false, false, false]) rfl (by kernel_rfl) (by kernel_rfl) (by kernel_rfl) (fun _ _ _ h => h) (p_extract (vs := [.agg #[.int .i64 (((Greedy.access hh (⟨l[i], 1, 1, 0⟩ : DItem)).1).room), .int .i64 (((Greedy.access hh (⟨l[i], 1, 1, 0⟩ : DItem)).1).floor), .slice a8_6 (((Greedy.access hh (⟨l[i], 1, 1, 0⟩ : DItem)).1).things).length c8_6], .bool ((Greedy.access hh (⟨l[i], 1, 1, 0⟩ : DItem)).2.1), .slice a8_6_1 ((Greedy.access hh (⟨l[i], 1, 1, 0⟩ : DItem)).2.2).length c8_6_1, .int .i64 (Greedy.accessErr hh (⟨l[i], 1, 1, 0⟩ : DItem))]) (v := .slice a8_6_1 ((Greedy.access hh (⟨l[i], 1, 1, 0⟩ : DItem)).2.2).length c8_6_1) rfl rfl) rfl rfl rfl (fun _ hw => HeapIs.drop hw (List.Sublist.cons _ (List.Sublist.cons_cons _ (List.Sublist.cons_cons _ (List.Sublist.cons_cons _ (List.Sublist.slnil)))))) rfl ?_
          refine h_take (i := 11) (ls := #[true, true, true, true, true, true, true, true, true, true, true, true, false, false, false, false, false]) rfl (by kernel_rfl) (by kernel_rfl) (by kernel_rfl) (fun _ _ _ h => h) (p_extract (vs := [.agg #[.int .i64 (((Greedy.access hh (⟨l[i], 1, 1, 0⟩ : DItem)).1).room), .int .i64 (((Greedy.access hh (⟨l[i], 1, 1, 0⟩ : DItem)).1).floor), .slice a8_6 (((Greedy.access hh (⟨l[i], 1, 1, 0⟩ : DItem)).1).things).length c8_6], .bool ((Greedy.access hh (⟨l[i], 1, 1, 0⟩ : DItem)).2.1), .slice a8_6_1 ((Greedy.access hh (⟨l[i], 1, 1, 0⟩ : DItem)).2.2).length c8_6_1, .int .i64 (Greedy.accessErr hh (⟨l[i], 1, 1, 0⟩ : DItem))]) (v := .int .i64 (Greedy.accessErr hh (⟨l[i], 1, 1, 0⟩ : DItem))) rfl rfl) rfl rfl rfl (fun _ hw => HeapIs.drop hw (List.Sublist.cons _ (List.Sublist.cons_cons _ (List.Sublist.cons_cons _ (List.Sublist.cons_cons _ (List.Sublist.slnil)))))) rfl ?_
          refine h_one (i := 12) (ls := #[true, true, true, true, true, true, true, true, true, true, true, true, true, false, false, false, false]) (by kernel_rfl) rfl rfl ?_
          refine o_alloc ze39 rfl (fun B8_12 => ?_)
          refine o_nil ?_
          refine h_next (fun _ hw => HeapIs.drop hw (List.Sublist.cons _ (List.Sublist.cons _ (List.Sublist.cons_cons _ (List.Sublist.cons_cons _ (List.Sublist.cons_cons _ (List.Sublist.slnil))))))) ?_
          refine h_one (i := 13) (ls := #[true, true, true, true, true, true, true, true, true, true, true, true, true, true, false, false, false]) (by kernel_rfl) rfl rfl ?_
          refine o_storeN (i := 0) (vs := [.int .i64 (((Greedy.access hh (⟨l[i], 1, 1, 0⟩ : DItem)).1).room), .int .i64 (((Greedy.access hh (⟨l[i], 1, 1, 0⟩ : DItem)).1).floor), .slice a8_6 (((Greedy.access hh (⟨l[i], 1, 1, 0⟩ : DItem)).1).things).length c8_6]) (cs' := [.int .i64 (((Greedy.access hh (⟨l[i], 1, 1, 0⟩ : DItem)).1).room), .int .i64 (((Greedy.access hh (⟨l[i], 1, 1, 0⟩ : DItem)).1).floor), .slice a8_6 (((Greedy.access hh (⟨l[i], 1, 1, 0⟩ : DItem)).1).things).length c8_6]) rfl rfl rfl sz39 rfl rfl rfl rfl ?_
          refine o_nil ?_
          refine h_next (fun _ hw => HeapIs.drop hw (List.Sublist.cons _ (List.Sublist.cons _ (List.Sublist.cons_cons _ (List.Sublist.cons_cons _ (List.Sublist.cons_cons _ (List.Sublist.slnil))))))) ?_
          refine h_take (i := 14) (ls := #[true, true, true, true, true, true, true, true, true, true, true, true, true, true, true, false, false]) rfl (by kernel_rfl) (by kernel_rfl) (by kernel_rfl) (fun _ _ _ h => h) (p_assign (v := .bool ((Greedy.access hh (⟨l[i], 1, 1, 0⟩ : DItem)).2.1)) rfl) rfl rfl rfl (fun _ hw => HeapIs.drop hw (List.Sublist.cons _ (List.Sublist.cons _ (List.Sublist.cons_cons _ (List.Sublist.cons_cons _ (List.Sublist.cons_cons _ (List.Sublist.slnil))))))) rfl ?_
          refine h_take (i := 15) (ls := #[true, true, true, true, true, true, true, true, true, true, true, true, true, true, true, true, false]) rfl (by kernel_rfl) (by kernel_rfl) (by kernel_rfl) (fun _ _ _ h => h) (p_assign (v := .slice a8_6_1 ((Greedy.access hh (⟨l[i], 1, 1, 0⟩ : DItem)).2.2).length c8_6_1) rfl) rfl rfl rfl (fun _ hw => HeapIs.drop hw (List.Sublist.cons _ (List.Sublist.cons _ (List.Sublist.cons_cons _ (List.Sublist.cons_cons _ (List.Sublist.cons_cons _ (List.Sublist.slnil))))))) rfl ?_
          refine h_take (i := 16) (ls := #[true, true, true, true, true, true, true, true, true, true, true, true, true, true, true, true, true]) rfl (by kernel_rfl) (by kernel_rfl) (by kernel_rfl) (fun _ _ _ h => h) (p_assign (v := .int .i64 (Greedy.accessErr hh (⟨l[i], 1, 1, 0⟩ : DItem))) rfl) rfl rfl rfl (fun _ hw => HeapIs.drop hw (List.Sublist.cons _ (List.Sublist.cons _ (List.Sublist.cons_cons _ (List.Sublist.cons_cons _ (List.Sublist.cons_cons _ (List.Sublist.slnil))))))) rfl ?_
          refine h_done (by kernel_rfl) ?_
          refine q_kont hK9 (S8_6, a8_6, c8_6, a8_6_1, c8_6_1, B8_12) (Sub.cons rfl (Sub.cons rfl (Sub.cons rfl (Sub.cons rfl (Sub.cons rfl (Sub.cons rfl (Sub.cons rfl (Sub.nil _)))))))) (fun _ hw => HeapIs.pick hw [0, 1, 2, 3, 4] (by decide) rfl)
        · refine o_alloc ze39 rfl (fun B8_12 => ?_)
          refine o_nil ?_
          refine h_next (fun _ hw => HeapIs.drop hw (List.Sublist.cons _ (List.Sublist.cons_cons _ (List.Sublist.cons_cons _ (List.Sublist.cons_cons _ (List.Sublist.slnil)))))) ?_
          refine h_one (i := 6) (ls := #[true, true, true, true, true, true, true, false, false, false, false, false, true, false, false, false, false]) (by kernel_rfl) rfl rfl ?_
          refine o_callM rfl (gaccess_ok hh ahh_0 chh_0 (⟨l[i], 1, 1, 0⟩ : DItem)) hf24 (fun w hw => (rd_loose (i := 1) rfl (fun hφ => hφ.elim)) w hw) rfl (fun _ _ _ _ ha hA => ⟨SlR.agree ha hA.1, SlR.agree ha hA.2⟩) ?_
          rintro ⟨a8_6, c8_6, a8_6_1, c8_6_1⟩ S8_6
          refine o_know (fun w hw => (hw.at (i := 0) rfl).here.1.2.1) (fun hlr8_6 => ?_)
          refine o_know (fun w hw => (hw.at (i := 0) rfl).here.2.2.1) (fun hlr8_6_1 => ?_)
          refine o_nil ?_
          refine h_next (fun _ hw => HeapIs.drop hw (List.Sublist.cons _ (List.Sublist.cons _ (List.Sublist.cons_cons _ (List.Sublist.cons_cons _ (List.Sublist.cons_cons _ (List.Sublist.slnil))))))) ?_
          refine h_take (i := 7) (ls := #[true, true, true, true, true, true, true, true, false, false, false, false, true, false, false, false, false]) rfl (by kernel_rfl) (by kernel_rfl) (by kernel_rfl) (fun _ _ _ h => h) (p_move (v := .tuple #[.agg #[.int .i64 (((Greedy.access hh (⟨l[i], 1, 1, 0⟩ : DItem)).1).room), .int .i64 (((Greedy.access hh (⟨l[i], 1, 1, 0⟩ : DItem)).1).floor), .slice a8_6 (((Greedy.access hh (⟨l[i], 1, 1, 0⟩ : DItem)).1).things).length c8_6], .bool ((Greedy.access hh (⟨l[i], 1, 1, 0⟩ : DItem)).2.1), .slice a8_6_1 ((Greedy.access hh (⟨l[i], 1, 1, 0⟩ : DItem)).2.2).length c8_6_1, .int .i64 (Greedy.accessErr hh (⟨l[i], 1, 1, 0⟩ : DItem))]) rfl) rfl rfl rfl (fun _ hw => HeapIs.drop hw (List.Sublist.cons _ (List.Sublist.cons _ (List.Sublist.cons_cons _ (List.Sublist.cons_cons _ (List.Sublist.cons_cons _ (List.Sublist.slnil))))))) rfl ?_
          refine h_take (i := 8) (ls := #[true, true, true, true, true, true, true, true, true, false, false, false, true, false, false, false, false]) rfl (by kernel_rfl) (by kernel_rfl) (by kernel_rfl) (fun _ _ _ h => h) (p_extract (vs := [.agg #[.int .i64 (((Greedy.access hh (⟨l[i], 1, 1, 0⟩ : DItem)).1).room), .int .i64 (((Greedy.access hh (⟨l[i], 1, 1, 0⟩ : DItem)).1).floor), .slice a8_6 (((Greedy.access hh (⟨l[i], 1, 1, 0⟩ : DItem)).1).things).length c8_6], .bool ((Greedy.access hh (⟨l[i], 1, 1, 0⟩ : DItem)).2.1), .slice a8_6_1 ((Greedy.access hh (⟨l[i], 1, 1, 0⟩ : DItem)).2.2).length c8_6_1, .int .i64 (Greedy.accessErr hh (⟨l[i], 1, 1, 0⟩ : DItem))]) (v := .agg #[.int .i64 (((Greedy.access hh (⟨l[i], 1, 1, 0⟩ : DItem)).1).room), .int .i64 (((Greedy.access hh (⟨l[i], 1, 1, 0⟩ : DItem)).1).floor), .slice a8_6 (((Greedy.access hh (⟨l[i], 1, 1, 0⟩ : DItem)).1).things).length c8_6]) rfl rfl) rfl rfl rfl (fun _ hw => HeapIs.drop hw (List.Sublist.cons _ (List.Sublist.cons _ (List.Sublist.cons_cons _ (List.Sublist.cons_cons _ (List.Sublist.cons_cons _ (List.Sublist.slnil))))))) rfl ?_
          refine h_take (i := 9) (ls := #[true, true, true, true, true, true, true, true, true, true, false, false, true, false, false, false, false]) rfl (by kernel_rfl) (by kernel_rfl) (by kernel_rfl) (fun _ _ _ h => h) (p_extract (vs := [.agg #[.int .i64 (((Greedy.access hh (⟨l[i], 1, 1, 0⟩ : DItem)).1).room), .int .i64 (((Greedy.access hh (⟨l[i], 1, 1, 0⟩ : DItem)).1).floor), .slice a8_6 (((Greedy.access hh (⟨l[i], 1, 1, 0⟩ : DItem)).1).things).length c8_6], .bool ((Greedy.access hh (⟨l[i], 1, 1, 0⟩ : DItem)).2.1), .slice a8_6_1 ((Greedy.access hh (⟨l[i], 1, 1, 0⟩ : DItem)).2.2).length c8_6_1, .int .i64 (Greedy.accessErr hh (⟨l[i], 1, 1, 0⟩ : DItem))]) (v := .bool ((Greedy.access hh (⟨l[i], 1, 1, 0⟩ : DItem)).2.1)) rfl rfl) rfl rfl rfl (fun _ hw => HeapIs.drop hw (List.Sublist.cons _ (List.Sublist.cons _ (List.Sublist.cons_cons _ (List.Sublist.cons_cons _ (List.Sublist.cons_cons _ (List.Sublist.slnil))))))) rfl ?_
          refine h_take (i := 10) (ls := #[true, true, true, true, true, true, true, true, true, true, true, false, true, false, false, false, false]) rfl (by kernel_rfl) (by kernel_rfl) (by kernel_rfl) (fun _ _ _ h => h) (p_extract (vs := [.agg #[.int .i64 (((Greedy.access hh (⟨l[i], 1, 1, 0⟩ : DItem)).1).room), .int .i64 (((Greedy.access hh (⟨l[i], 1, 1, 0⟩ : DItem)).1).floor), .slice a8_6 (((Greedy.access hh (⟨l[i], 1, 1, 0⟩ : DItem)).1).things).length c8_6], .bool ((Greedy.access hh (⟨l[i], 1, 1, 0⟩ : DItem)).2.1), .slice a8_6_1 ((Greedy.access hh (⟨l[i], 1, 1, 0⟩ : DItem)).2.2).length c8_6_1, .int .i64 (Greedy.accessErr hh (⟨l[i], 1, 1, 0⟩ : DItem))]) (v := .slice a8_6_1 ((Greedy.access hh (⟨l[i], 1, 1, 0⟩ : DItem)).2.2).length c8_6_1) rfl rfl) rfl rfl rfl (fun _ hw => HeapIs.drop hw (List.Sublist.cons _ (List.Sublist.cons _ (List.Sublist.cons_cons _ (List.Sublist.cons_cons _ (List.Sublist.cons_cons _ (List.Sublist.slnil))))))) rfl ?_
          refine h_take (i := 11) (ls := #[true, true, true, true, true, true, true, true, true, true, true, true, true, false, false, false, false]) rfl (by kernel_rfl) (by kernel_rfl) (by kernel_rfl) (fun _ _ _ h => h) (p_extract (vs := [.agg #[.int .i64 (((Greedy.access hh (⟨l[i], 1, 1, 0⟩ : DItem)).1).room), .int .i64 (((Greedy.access hh (⟨l[i], 1, 1, 0⟩ : DItem)).1).floor), .slice a8_6 (((Greedy.access hh (⟨l[i], 1, 1, 0⟩ : DItem)).1).things).length c8_6], .bool ((Greedy.access hh (⟨l[i], 1, 1, 0⟩ : DItem)).2.1), .slice a8_6_1 ((Greedy.access hh (⟨l[i], 1, 1, 0⟩ : DItem)).2.2).length c8_6_1, .int .i64 (Greedy.accessErr hh (⟨l[i], 1, 1, 0⟩ : DItem))]) (v := .int .i64 (Greedy.accessErr hh (⟨l[i], 1, 1, 0⟩ : DItem))) rfl rfl) rfl rfl rfl (fun _ hw => HeapIs.drop hw (List.Sublist.cons _ (List.Sublist.cons _ (List.Sublist.cons_cons _ (List.Sublist.cons_cons _ (List.Sublist.cons_cons _ (List.Sublist.slnil))))))) rfl ?_
          refine h_one (i := 13) (ls := #[true, true, true, true, true, true, true, true, true, true, true, true, true, true, false, false, false]) (by kernel_rfl) rfl rfl ?_
          refine o_storeN (i := 1) (vs := [.int .i64 (((Greedy.access hh (⟨l[i], 1, 1, 0⟩ : DItem)).1).room), .int .i64 (((Greedy.access hh (⟨l[i], 1, 1, 0⟩ : DItem)).1).floor), .slice a8_6 (((Greedy.access hh (⟨l[i], 1, 1, 0⟩ : DItem)).1).things).length c8_6]) (cs' := [.int .i64 (((Greedy.access hh (⟨l[i], 1, 1, 0⟩ : DItem)).1).room), .int .i64 (((Greedy.access hh (⟨l[i], 1, 1, 0⟩ : DItem)).1).floor), .slice a8_6 (((Greedy.access hh (⟨l[i], 1, 1, 0⟩ : DItem)).1).things).length c8_6]) rfl rfl rfl sz39 rfl rfl rfl rfl ?_
          refine o_nil ?_
          refine h_next (fun _ hw => HeapIs.drop hw (List.Sublist.cons _ (List.Sublist.cons _ (List.Sublist.cons_cons _ (List.Sublist.cons_cons _ (List.Sublist.cons_cons _ (List.Sublist.slnil))))))) ?_
          refine h_take (i := 14) (ls := #[true, true, true, true, true, true, true, true, true, true, true, true, true, true, true, false, false]) rfl (by kernel_rfl) (by kernel_rfl) (by kernel_rfl) (fun _ _ _ h => h) (p_assign (v := .bool ((Greedy.access hh (⟨l[i], 1, 1, 0⟩ : DItem)).2.1)) rfl) rfl rfl rfl (fun _ hw => HeapIs.drop hw (List.Sublist.cons _ (List.Sublist.cons _ (List.Sublist.cons_cons _ (List.Sublist.cons_cons _ (List.Sublist.cons_cons _ (List.Sublist.slnil))))))) rfl ?_
          refine h_take (i := 15) (ls := #[true, true, true, true, true, true, true, true, true, true, true, true, true, true, true, true, false]) rfl (by kernel_rfl) (by kernel_rfl) (by kernel_rfl) (fun _ _ _ h => h) (p_assign (v := .slice a8_6_1 ((Greedy.access hh (⟨l[i], 1, 1, 0⟩ : DItem)).2.2).length c8_6_1) rfl) rfl rfl rfl (fun _ hw => HeapIs.drop hw (List.Sublist.cons _ (List.Sublist.cons _ (List.Sublist.cons_cons _ (List.Sublist.cons_cons _ (List.Sublist.cons_cons _ (List.Sublist.slnil))))))) rfl ?_
          refine h_take (i := 16) (ls := #[true, true, true, true, true, true, true, true, true, true, true, true, true, true, true, true, true]) rfl (by kernel_rfl) (by kernel_rfl) (by kernel_rfl) (fun _ _ _ h => h) (p_assign (v := .int .i64 (Greedy.accessErr hh (⟨l[i], 1, 1, 0⟩ : DItem))) rfl) rfl rfl rfl (fun _ hw => HeapIs.drop hw (List.Sublist.cons _ (List.Sublist.cons _ (List.Sublist.cons_cons _ (List.Sublist.cons_cons _ (List.Sublist.cons_cons _ (List.Sublist.slnil))))))) rfl ?_
          refine h_done (by kernel_rfl) ?_
          refine q_kont hK9 (S8_6, a8_6, c8_6, a8_6_1, c8_6_1, B8_12) (Sub.cons rfl (Sub.cons rfl (Sub.cons rfl (Sub.cons rfl (Sub.cons rfl (Sub.cons rfl (Sub.cons rfl (Sub.nil _)))))))) (fun _ hw => HeapIs.pick hw [1, 0, 2, 3, 4] (by decide) rfl)
      rintro ⟨S8_6, a8_6, c8_6, a8_6_1, c8_6_1, B8_12⟩
      show SQ _ 95 w0 _ _ [(0, .int .i64 room), (1, .slice al l.length cl), (5, .pointer (some ⟨B3, 0, none⟩)), (6, .int .i64 (i : Int)), (7, .pointer (some ⟨B8_12, 0, none⟩)), (9, .slice a8_6_1 ((Greedy.access hh (⟨l[i], 1, 1, 0⟩ : DItem)).2.2).length c8_6_1), (10, .int .i64 (Greedy.accessErr hh (⟨l[i], 1, 1, 0⟩ : DItem)))] [box B8_12 [.int .i64 (((Greedy.access hh (⟨l[i], 1, 1, 0⟩ : DItem)).1).room), .int .i64 (((Greedy.access hh (⟨l[i], 1, 1, 0⟩ : DItem)).1).floor), .slice a8_6 (((Greedy.access hh (⟨l[i], 1, 1, 0⟩ : DItem)).1).things).length c8_6] 39, ⟨S8_6, fun w => SlR tItem S8_6 w a8_6 c8_6 (((Greedy.access hh (⟨l[i], 1, 1, 0⟩ : DItem)).1).things) ∧ SlR tInt S8_6 w a8_6_1 c8_6_1 ((Greedy.access hh (⟨l[i], 1, 1, 0⟩ : DItem)).2.2)⟩, loose tItem (False) Shh_0 ahh_0 chh_0 hh.things, box B3 [.int .i64 hh.room, .int .i64 hh.floor, .slice ahh_0 hh.things.length chh_0] 39, base w0]
      refine q_know (fun w hw => (hw.at (i := 1) rfl).here.2.2.1) (fun hlr10 => ?_)
      refine q_know (fun w hw => (hw.at (i := 1) rfl).here.1.2.1) (fun hlr11 => ?_)
      refine q_then ?_
      refine c_seq ?_
      refine c_seq ?_
      refine c_region ?_
      refine o_pure (p_move (v := .int .i64 (Greedy.accessErr hh (⟨l[i], 1, 1, 0⟩ : DItem))) rfl) rfl rfl rfl ?_
      refine o_pure (p_ne (p := (Greedy.accessErr hh (⟨l[i], 1, 1, 0⟩ : DItem))) (q := 0) rfl rfl) rfl rfl rfl ?_
      refine o_nil ?_
      refine q_then ?_
      refine c_cond (b := ((Greedy.accessErr hh (⟨l[i], 1, 1, 0⟩ : DItem)) != 0)) rfl (fun hc12 => ?_) (fun hc12 => ?_)
      · simp only [bne_iff_ne, ne_eq] at hc12
        refine c_seq ?_
        refine c_region ?_
        refine o_pure (p_move (v := .int .i64 (Greedy.accessErr hh (⟨l[i], 1, 1, 0⟩ : DItem))) rfl) rfl rfl rfl ?_
        refine o_pure (p_eq (p := (Greedy.accessErr hh (⟨l[i], 1, 1, 0⟩ : DItem))) (q := 3) rfl rfl) rfl rfl rfl ?_
        refine o_pure (p_assign (v := .bool ((Greedy.accessErr hh (⟨l[i], 1, 1, 0⟩ : DItem)) == 3)) rfl) rfl rfl rfl ?_
        refine o_nil ?_
        refine q_then ?_
        refine c_ret ?_
        refine q_then_ret (q_block_ret (q_then_ret (q_then_ret (q_block_ret (q_then_ret ?_)))))
        have hr0 : (((Greedy.accessErr hh (⟨l[i], 1, 1, 0⟩ : DItem)) == 3) : Bool) = true := by
          first | rfl | (rw [hO.1.err _ (by assumption)]; rfl)
        refine q_end0 (v := .bool ((Greedy.accessErr hh (⟨l[i], 1, 1, 0⟩ : DItem)) == 3)) (rt1 rfl (r_tmp rfl)) (i := 4) rfl ?_
        exact (by have hcc := congrArg (fun (y0 : Bool) => (.bool y0 : Value)) hr0; exact hcc)
      · simp only [bne_eq_false_iff_eq] at hc12
        have hnx := Greedy.Ones.next (k := l[i]) hO.1 hc12
        refine c_skip ?_
        refine q_then ?_
        refine c_seq ?_
        refine c_seq ?_
        refine c_region ?_
        refine o_pure (p_assign (v := .int .i64 0) rfl) rfl rfl rfl ?_
        refine o_nil ?_
        refine q_then ?_
        refine c_block ?_
        refine c_loop (St := Nat)
          (fun k => [(0, .int .i64 room), (1, .slice al l.length cl), (5, .pointer (some ⟨B3, 0, none⟩)), (6, .int .i64 (i : Int)), (7, .pointer (some ⟨B8_12, 0, none⟩)), (9, .slice a8_6_1 ((Greedy.access hh (⟨l[i], 1, 1, 0⟩ : DItem)).2.2).length c8_6_1), (11, .int .i64 (k : Int))])
          (fun k => [box B8_12 [.int .i64 (((Greedy.access hh (⟨l[i], 1, 1, 0⟩ : DItem)).1).room), .int .i64 (((Greedy.access hh (⟨l[i], 1, 1, 0⟩ : DItem)).1).floor), .slice a8_6 (((Greedy.access hh (⟨l[i], 1, 1, 0⟩ : DItem)).1).things).length c8_6] 39, ⟨S8_6, fun w => SlR tItem S8_6 w a8_6 c8_6 (((Greedy.access hh (⟨l[i], 1, 1, 0⟩ : DItem)).1).things) ∧ SlR tInt S8_6 w a8_6_1 c8_6_1 ((Greedy.access hh (⟨l[i], 1, 1, 0⟩ : DItem)).2.2)⟩, loose tItem (False) Shh_0 ahh_0 chh_0 hh.things, box B3 [.int .i64 hh.room, .int .i64 hh.floor, .slice ahh_0 hh.things.length chh_0] 39, base w0])
          (fun k => True)
          (fun k => (Greedy.access hh ⟨l[i], 1, 1, 0⟩).2.2.length - k)
          0 ?_ (Sub.cons rfl (Sub.cons rfl (Sub.cons rfl (Sub.cons rfl (Sub.cons rfl (Sub.cons rfl (Sub.cons rfl (Sub.nil _)))))))) (fun _ hw => hw) ?_
        · trivial
        rintro k hI K hK13
        show SC _ _ Try.prog 95 w0 _ _ [(0, .int .i64 room), (1, .slice al l.length cl), (5, .pointer (some ⟨B3, 0, none⟩)), (6, .int .i64 (i : Int)), (7, .pointer (some ⟨B8_12, 0, none⟩)), (9, .slice a8_6_1 ((Greedy.access hh (⟨l[i], 1, 1, 0⟩ : DItem)).2.2).length c8_6_1), (11, .int .i64 (k : Int))] [box B8_12 [.int .i64 (((Greedy.access hh (⟨l[i], 1, 1, 0⟩ : DItem)).1).room), .int .i64 (((Greedy.access hh (⟨l[i], 1, 1, 0⟩ : DItem)).1).floor), .slice a8_6 (((Greedy.access hh (⟨l[i], 1, 1, 0⟩ : DItem)).1).things).length c8_6] 39, ⟨S8_6, fun w => SlR tItem S8_6 w a8_6 c8_6 (((Greedy.access hh (⟨l[i], 1, 1, 0⟩ : DItem)).1).things) ∧ SlR tInt S8_6 w a8_6_1 c8_6_1 ((Greedy.access hh (⟨l[i], 1, 1, 0⟩ : DItem)).2.2)⟩, loose tItem (False) Shh_0 ahh_0 chh_0 hh.things, box B3 [.int .i64 hh.room, .int .i64 hh.floor, .slice ahh_0 hh.things.length chh_0] 39, base w0]
        refine c_seq ?_
        refine c_seq ?_
        refine c_region ?_
        refine o_pure (p_move (v := .int .i64 (k : Int)) rfl) rfl rfl rfl ?_
        refine o_pure (p_move (v := .slice a8_6_1 ((Greedy.access hh (⟨l[i], 1, 1, 0⟩ : DItem)).2.2).length c8_6_1) rfl) rfl rfl rfl ?_
        refine o_pure (p_len_slice (len := ((Greedy.access hh (⟨l[i], 1, 1, 0⟩ : DItem)).2.2).length) rfl rfl Try.underlying22) rfl rfl rfl ?_
        refine o_pure (p_lt (p := (k : Int)) (q := (((Greedy.access hh (⟨l[i], 1, 1, 0⟩ : DItem)).2.2).length : Int)) rfl rfl) rfl rfl rfl ?_
        refine o_nil ?_
        refine q_then ?_
        refine c_cond (b := decide ((k : Int) < (((Greedy.access hh (⟨l[i], 1, 1, 0⟩ : DItem)).2.2).length : Int))) rfl (fun hc14 => ?_) (fun hc14 => ?_)
        · simp only [decide_eq_true_eq] at hc14
          refine c_skip ?_
          refine q_then ?_
          refine c_seq ?_
          refine c_block ?_
          refine c_seq ?_
          refine c_region ?_
          refine o_pure (p_assign (v := .int .i64 0) rfl) rfl rfl rfl ?_
          refine o_nil ?_
          refine q_then ?_
          refine c_block ?_
          refine c_loop (St := Nat)
            (fun j => [(0, .int .i64 room), (1, .slice al l.length cl), (5, .pointer (some ⟨B3, 0, none⟩)), (6, .int .i64 (i : Int)), (7, .pointer (some ⟨B8_12, 0, none⟩)), (9, .slice a8_6_1 ((Greedy.access hh (⟨l[i], 1, 1, 0⟩ : DItem)).2.2).length c8_6_1), (11, .int .i64 (k : Int)), (12, .int .i64 (j : Int))])
            (fun j => [box B8_12 [.int .i64 (((Greedy.access hh (⟨l[i], 1, 1, 0⟩ : DItem)).1).room), .int .i64 (((Greedy.access hh (⟨l[i], 1, 1, 0⟩ : DItem)).1).floor), .slice a8_6 (((Greedy.access hh (⟨l[i], 1, 1, 0⟩ : DItem)).1).things).length c8_6] 39, ⟨S8_6, fun w => SlR tItem S8_6 w a8_6 c8_6 (((Greedy.access hh (⟨l[i], 1, 1, 0⟩ : DItem)).1).things) ∧ SlR tInt S8_6 w a8_6_1 c8_6_1 ((Greedy.access hh (⟨l[i], 1, 1, 0⟩ : DItem)).2.2)⟩, loose tItem (False) Shh_0 ahh_0 chh_0 hh.things, box B3 [.int .i64 hh.room, .int .i64 hh.floor, .slice ahh_0 hh.things.length chh_0] 39, base w0])
            (fun j => True)
            (fun j => (Greedy.access hh ⟨l[i], 1, 1, 0⟩).1.things.length - j)
            0 ?_ (Sub.cons rfl (Sub.cons rfl (Sub.cons rfl (Sub.cons rfl (Sub.cons rfl (Sub.cons rfl (Sub.cons rfl (Sub.cons rfl (Sub.nil _))))))))) (fun _ hw => hw) ?_
          · trivial
          rintro j hI K hK15
          show SC _ _ Try.prog 95 w0 _ _ [(0, .int .i64 room), (1, .slice al l.length cl), (5, .pointer (some ⟨B3, 0, none⟩)), (6, .int .i64 (i : Int)), (7, .pointer (some ⟨B8_12, 0, none⟩)), (9, .slice a8_6_1 ((Greedy.access hh (⟨l[i], 1, 1, 0⟩ : DItem)).2.2).length c8_6_1), (11, .int .i64 (k : Int)), (12, .int .i64 (j : Int))] [box B8_12 [.int .i64 (((Greedy.access hh (⟨l[i], 1, 1, 0⟩ : DItem)).1).room), .int .i64 (((Greedy.access hh (⟨l[i], 1, 1, 0⟩ : DItem)).1).floor), .slice a8_6 (((Greedy.access hh (⟨l[i], 1, 1, 0⟩ : DItem)).1).things).length c8_6] 39, ⟨S8_6, fun w => SlR tItem S8_6 w a8_6 c8_6 (((Greedy.access hh (⟨l[i], 1, 1, 0⟩ : DItem)).1).things) ∧ SlR tInt S8_6 w a8_6_1 c8_6_1 ((Greedy.access hh (⟨l[i], 1, 1, 0⟩ : DItem)).2.2)⟩, loose tItem (False) Shh_0 ahh_0 chh_0 hh.things, box B3 [.int .i64 hh.room, .int .i64 hh.floor, .slice ahh_0 hh.things.length chh_0] 39, base w0]
          refine c_seq ?_
          refine c_seq ?_
          refine c_region ?_
          refine o_pure (p_move (v := .int .i64 (j : Int)) rfl) rfl rfl rfl ?_
          refine o_pure (p_fieldAddr (B := B8_12) (j := 0) (j' := 2) rfl fo39_2 rfl) rfl rfl rfl ?_
          refine o_pure (p_load (i := 0) (v := .slice a8_6 (((Greedy.access hh (⟨l[i], 1, 1, 0⟩ : DItem)).1).things).length c8_6) rfl rfl sh37 rfl) rfl rfl rfl ?_
          refine o_pure (p_len_slice (len := (((Greedy.access hh (⟨l[i], 1, 1, 0⟩ : DItem)).1).things).length) rfl rfl Try.underlying37) rfl rfl rfl ?_
          refine o_pure (p_lt (p := (j : Int)) (q := ((((Greedy.access hh (⟨l[i], 1, 1, 0⟩ : DItem)).1).things).length : Int)) rfl rfl) rfl rfl rfl ?_
          refine o_nil ?_
          refine q_then ?_
          refine c_cond (b := decide ((j : Int) < ((((Greedy.access hh (⟨l[i], 1, 1, 0⟩ : DItem)).1).things).length : Int))) rfl (fun hc16 => ?_) (fun hc16 => ?_)
          · simp only [decide_eq_true_eq] at hc16
            refine c_skip ?_
            refine q_then ?_
            refine c_seq ?_
            refine c_block ?_
            refine c_seq ?_
            refine c_draw hmix (by kernel_rfl) ?_
            refine w_pure (p_fieldAddr (B := B8_12) (j := 0) (j' := 2) rfl fo39_2 rfl) rfl rfl rfl ?_
            refine w_pure (p_load (i := 0) (v := .slice a8_6 (((Greedy.access hh (⟨l[i], 1, 1, 0⟩ : DItem)).1).things).length c8_6) rfl rfl sh37 rfl) rfl rfl rfl ?_
            refine w_pure (p_move (v := .int .i64 (j : Int)) rfl) rfl rfl rfl ?_
            refine w_pure (p_indexAddr (L := ((Greedy.access hh (⟨l[i], 1, 1, 0⟩ : DItem)).1).things) (T := tItem) (i := (j : Int)) rfl rfl (rd_ent (i := 1) rfl (fun w h => h.1)) Try.underlying37 sz41 (by omega) (by omega)) rfl rfl rfl ?_
            refine w_pure (p_fieldAddrE rfl fo41_3) rfl rfl rfl ?_
            refine w_pure (p_loadF (i := j) (j := 3) (T := tItem) (L := ((Greedy.access hh (⟨l[i], 1, 1, 0⟩ : DItem)).1).things) (v := .int .i64 (((((Greedy.access hh (⟨l[i], 1, 1, 0⟩ : DItem)).1).things)[j]).worth)) rfl (rd_ent (i := 1) rfl (fun w h => h.1)) (by first | assumption | omega) sh3 rfl) rfl rfl rfl ?_
            refine w_pure (p_fieldAddr (B := B3) (j := 0) (j' := 1) rfl fo39_1 rfl) rfl rfl rfl ?_
            refine w_pure (p_load (i := 3) (v := .int .i64 hh.floor) rfl rfl sh3 rfl) rfl rfl rfl ?_
            refine w_pure (p_lt (p := ((((Greedy.access hh (⟨l[i], 1, 1, 0⟩ : DItem)).1).things)[j]).worth) (q := hh.floor) rfl rfl) rfl rfl rfl ?_
            refine w_pure (p_move (v := .bool (decide (((((Greedy.access hh (⟨l[i], 1, 1, 0⟩ : DItem)).1).things)[j]).worth < hh.floor))) rfl) rfl rfl rfl ?_
            refine w_or (p := 83) 12 (((((Greedy.access hh (⟨l[i], 1, 1, 0⟩ : DItem)).1).things)[j]).key == ((Greedy.access hh (⟨l[i], 1, 1, 0⟩ : DItem)).2.2)[k]) ?_ ?_ ?_
            · intro hb17 hk
              simp only [decide_eq_false_iff_not, Int.not_lt] at hb17
              refine w_unguard 71 rfl rfl ?_
              refine w_pure (p_fieldAddr (B := B8_12) (j := 0) (j' := 2) rfl fo39_2 rfl) rfl rfl rfl ?_
              refine w_unguard 71 rfl rfl ?_
              refine w_pure (p_load (i := 0) (v := .slice a8_6 (((Greedy.access hh (⟨l[i], 1, 1, 0⟩ : DItem)).1).things).length c8_6) rfl rfl sh37 rfl) rfl rfl rfl ?_
              refine w_unguard 71 rfl rfl ?_
              refine w_pure (p_move (v := .int .i64 (j : Int)) rfl) rfl rfl rfl ?_
              refine w_unguard 71 rfl rfl ?_
              refine w_pure (p_indexAddr (L := ((Greedy.access hh (⟨l[i], 1, 1, 0⟩ : DItem)).1).things) (T := tItem) (i := (j : Int)) rfl rfl (rd_ent (i := 1) rfl (fun w h => h.1)) Try.underlying37 sz41 (by omega) (by omega)) rfl rfl rfl ?_
              refine w_unguard 71 rfl rfl ?_
              refine w_pure (p_fieldAddrE rfl fo41_0) rfl rfl rfl ?_
              refine w_unguard 71 rfl rfl ?_
              refine w_pure (p_loadF (i := j) (j := 0) (T := tItem) (L := ((Greedy.access hh (⟨l[i], 1, 1, 0⟩ : DItem)).1).things) (v := .int .i64 (((((Greedy.access hh (⟨l[i], 1, 1, 0⟩ : DItem)).1).things)[j]).key)) rfl (rd_ent (i := 1) rfl (fun w h => h.1)) (by first | assumption | omega) sh3 rfl) rfl rfl rfl ?_
              refine w_unguard 71 rfl rfl ?_
              refine w_pure (p_move (v := .slice a8_6_1 ((Greedy.access hh (⟨l[i], 1, 1, 0⟩ : DItem)).2.2).length c8_6_1) rfl) rfl rfl rfl ?_
              refine w_unguard 71 rfl rfl ?_
              refine w_pure (p_move (v := .int .i64 (k : Int)) rfl) rfl rfl rfl ?_
              refine w_unguard 71 rfl rfl ?_
              refine w_pure (p_indexAddr (L := ((Greedy.access hh (⟨l[i], 1, 1, 0⟩ : DItem)).2.2)) (T := tInt) (i := (k : Int)) rfl rfl (rd_ent (i := 1) rfl (fun w h => h.2)) Try.underlying22 sz3 (by omega) (by omega)) rfl rfl rfl ?_
              refine w_unguard 71 rfl rfl ?_
              refine w_pure (p_loadE1 (i := k) (T := tInt) (L := ((Greedy.access hh (⟨l[i], 1, 1, 0⟩ : DItem)).2.2)) (v := .int .i64 (((Greedy.access hh (⟨l[i], 1, 1, 0⟩ : DItem)).2.2)[k])) rfl (rd_ent (i := 1) rfl (fun w h => h.2)) (by first | assumption | omega) sh3 rfl) rfl rfl rfl ?_
              refine w_unguard 71 rfl rfl ?_
              refine w_pure (p_eq (p := ((((Greedy.access hh (⟨l[i], 1, 1, 0⟩ : DItem)).1).things)[j]).key) (q := ((Greedy.access hh (⟨l[i], 1, 1, 0⟩ : DItem)).2.2)[k]) rfl rfl) rfl rfl rfl ?_
              refine w_pure (p_pick_false (v := .bool (((((Greedy.access hh (⟨l[i], 1, 1, 0⟩ : DItem)).1).things)[j]).key == ((Greedy.access hh (⟨l[i], 1, 1, 0⟩ : DItem)).2.2)[k])) rfl rfl) rfl rfl rfl ?_
              exact w_sub (Sub.cons rfl (Sub.skip rfl (Sub.skip rfl (Sub.skip rfl (Sub.skip rfl (Sub.skip rfl (Sub.skip rfl (Sub.skip rfl (Sub.skip rfl (Sub.skip rfl (Sub.skip rfl (Sub.skip rfl (Sub.skip rfl (Sub.skip rfl (Sub.refl _))))))))))))))) hk
            · intro hb17 hk
              refine w_guard_no rfl 71 rfl rfl rfl rfl rfl ?_
              refine w_guard_no rfl 71 rfl rfl rfl rfl rfl ?_
              refine w_guard_no rfl 71 rfl rfl rfl rfl rfl ?_
              refine w_guard_no rfl 71 rfl rfl rfl rfl rfl ?_
              refine w_guard_no rfl 71 rfl rfl rfl rfl rfl ?_
              refine w_guard_no rfl 71 rfl rfl rfl rfl rfl ?_
              refine w_guard_no rfl 71 rfl rfl rfl rfl rfl ?_
              refine w_guard_no rfl 71 rfl rfl rfl rfl rfl ?_
              refine w_guard_no rfl 71 rfl rfl rfl rfl rfl ?_
              refine w_guard_no rfl 71 rfl rfl rfl rfl rfl ?_
              refine w_guard_no rfl 71 rfl rfl rfl rfl rfl ?_
              refine w_pure (p_pick_true (u := .bool true) rfl rfl) rfl rfl rfl ?_
              exact w_sub (Sub.cons rfl (Sub.skip rfl (Sub.skip rfl (Sub.skip rfl (Sub.skip rfl (Sub.skip rfl (Sub.skip rfl (Sub.skip rfl (Sub.skip rfl (Sub.skip rfl (Sub.skip rfl (Sub.skip rfl (Sub.skip rfl (Sub.skip rfl (Sub.refl _))))))))))))))) hk
            refine w_nil ?_
            refine q_then ?_
            refine c_cond (b := (decide (((((Greedy.access hh (⟨l[i], 1, 1, 0⟩ : DItem)).1).things)[j]).worth < hh.floor) || (((((Greedy.access hh (⟨l[i], 1, 1, 0⟩ : DItem)).1).things)[j]).key == ((Greedy.access hh (⟨l[i], 1, 1, 0⟩ : DItem)).2.2)[k]))) rfl (fun hc18 => ?_) (fun hc18 => ?_)
            · simp only [Bool.or_eq_true, decide_eq_true_eq, beq_iff_eq] at hc18
              exfalso
              have hj : j < (Greedy.access hh ⟨l[i], 1, 1, 0⟩).1.things.length := by omega
              rcases hc18 with hc18 | hc18
              · have hq := (hnx.1.ok.worth _ (List.getElem_mem hj)).1; have hq2 := hnx.2.1; omega
              · exact hnx.2.2.2 _ (List.getElem_mem hj) (by rw [hc18]; exact List.getElem_mem _)
            · simp only [Bool.or_eq_false_iff, decide_eq_false_iff_not, Int.not_lt, beq_eq_false_iff_ne, ne_eq] at hc18
              refine c_skip ?_
              refine q_block_normal (q_then ?_)
              refine c_region ?_
              refine o_pure (p_move (v := .int .i64 (j : Int)) rfl) rfl rfl rfl ?_
              refine o_pure (p_addb (p := (j : Int)) (q := 1) rfl rfl (by omega)) rfl rfl rfl ?_
              refine o_pure (p_assign (v := .int .i64 ((j : Int) + 1)) rfl) rfl rfl rfl ?_
              refine o_nil ?_
              refine q_round hK15 (j + 1) ?_ ?_ ?_ ?_
              · clear hK15
                trivial
              · (try dsimp only); omega
              · exact Sub.cons rfl (Sub.cons rfl (Sub.cons rfl (Sub.cons rfl (Sub.cons rfl (Sub.cons rfl (Sub.cons rfl (Sub.cons rfl (Sub.nil _))))))))
              · exact fun _ hw => HeapIs.pick hw [0, 1, 2, 3, 4] (by decide) rfl
          · simp only [decide_eq_false_iff_not, Int.not_lt] at hc16
            refine c_exit ?_
            refine q_then_exit (q_then_exit (q_block_exit (q_block_normal (q_then ?_))))
            refine c_region ?_
            refine o_pure (p_move (v := .int .i64 (k : Int)) rfl) rfl rfl rfl ?_
            refine o_pure (p_addb (p := (k : Int)) (q := 1) rfl rfl (by omega)) rfl rfl rfl ?_
            refine o_pure (p_assign (v := .int .i64 ((k : Int) + 1)) rfl) rfl rfl rfl ?_
            refine o_nil ?_
            refine q_round hK13 (k + 1) ?_ ?_ ?_ ?_
            · clear hK13
              trivial
            · (try dsimp only); omega
            · exact Sub.cons rfl (Sub.cons rfl (Sub.cons rfl (Sub.cons rfl (Sub.cons rfl (Sub.cons rfl (Sub.cons rfl (Sub.nil _)))))))
            · exact fun _ hw => HeapIs.pick hw [0, 1, 2, 3, 4] (by decide) rfl
        · simp only [decide_eq_false_iff_not, Int.not_lt] at hc14
          refine c_exit ?_
          refine q_then_exit (q_then_exit (q_block_exit (q_then ?_)))
          refine c_seq ?_
          refine c_seq ?_
          refine c_region ?_
          refine o_pure (p_fieldAddr (B := B8_12) (j := 0) (j' := 2) rfl fo39_2 rfl) rfl rfl rfl ?_
          refine o_pure (p_load (i := 0) (v := .slice a8_6 (((Greedy.access hh (⟨l[i], 1, 1, 0⟩ : DItem)).1).things).length c8_6) rfl rfl sh37 rfl) rfl rfl rfl ?_
          refine o_pure (p_len_slice (len := (((Greedy.access hh (⟨l[i], 1, 1, 0⟩ : DItem)).1).things).length) rfl rfl Try.underlying37) rfl rfl rfl ?_
          refine o_pure (p_move (v := .int .i64 room) rfl) rfl rfl rfl ?_
          refine o_pure (p_gt (p := ((((Greedy.access hh (⟨l[i], 1, 1, 0⟩ : DItem)).1).things).length : Int)) (q := room) rfl rfl) rfl rfl rfl ?_
          refine o_pure (p_move (v := .bool (decide (room < ((((Greedy.access hh (⟨l[i], 1, 1, 0⟩ : DItem)).1).things).length : Int)))) rfl) rfl rfl rfl ?_
          refine o_or (p := 93) 4 (decide (1 < (((Greedy.access hh (⟨l[i], 1, 1, 0⟩ : DItem)).2.2).length : Int))) ?_ ?_ ?_
          · intro hb19 hk
            simp only [decide_eq_false_iff_not, Int.not_lt] at hb19
            refine o_unguard 89 rfl rfl ?_
            refine o_pure (p_move (v := .slice a8_6_1 ((Greedy.access hh (⟨l[i], 1, 1, 0⟩ : DItem)).2.2).length c8_6_1) rfl) rfl rfl rfl ?_
            refine o_unguard 89 rfl rfl ?_
            refine o_pure (p_len_slice (len := ((Greedy.access hh (⟨l[i], 1, 1, 0⟩ : DItem)).2.2).length) rfl rfl Try.underlying22) rfl rfl rfl ?_
            refine o_unguard 89 rfl rfl ?_
            refine o_pure (p_gt (p := (((Greedy.access hh (⟨l[i], 1, 1, 0⟩ : DItem)).2.2).length : Int)) (q := 1) rfl rfl) rfl rfl rfl ?_
            refine o_pure (p_pick_false (v := .bool (decide (1 < (((Greedy.access hh (⟨l[i], 1, 1, 0⟩ : DItem)).2.2).length : Int)))) rfl rfl) rfl rfl rfl ?_
            exact o_sub (Sub.cons rfl (Sub.skip rfl (Sub.skip rfl (Sub.skip rfl (Sub.skip rfl (Sub.skip rfl (Sub.refl _))))))) hk
          · intro hb19 hk
            refine o_guard_no rfl 89 rfl rfl rfl rfl rfl ?_
            refine o_guard_no rfl 89 rfl rfl rfl rfl rfl ?_
            refine o_guard_no rfl 89 rfl rfl rfl rfl rfl ?_
            refine o_pure (p_pick_true (u := .bool true) rfl rfl) rfl rfl rfl ?_
            exact o_sub (Sub.cons rfl (Sub.skip rfl (Sub.skip rfl (Sub.skip rfl (Sub.skip rfl (Sub.skip rfl (Sub.refl _))))))) hk
          refine o_nil ?_
          refine q_then ?_
          refine c_cond (b := (decide (room < ((((Greedy.access hh (⟨l[i], 1, 1, 0⟩ : DItem)).1).things).length : Int)) || decide (1 < (((Greedy.access hh (⟨l[i], 1, 1, 0⟩ : DItem)).2.2).length : Int)))) rfl (fun hc20 => ?_) (fun hc20 => ?_)
          · simp only [Bool.or_eq_true, decide_eq_true_eq] at hc20
            exfalso
            have hq := hnx.1.len
            have hq2 := hnx.2.2.1
            omega
          · simp only [Bool.or_eq_false_iff, decide_eq_false_iff_not, Int.not_lt] at hc20
            refine c_skip ?_
            refine q_then ?_
            refine c_region ?_
            refine o_pure (p_load_agg (i := 0) (vs := [.int .i64 (((Greedy.access hh (⟨l[i], 1, 1, 0⟩ : DItem)).1).room), .int .i64 (((Greedy.access hh (⟨l[i], 1, 1, 0⟩ : DItem)).1).floor), .slice a8_6 (((Greedy.access hh (⟨l[i], 1, 1, 0⟩ : DItem)).1).things).length c8_6]) rfl rfl sh39 rfl rfl) rfl rfl rfl ?_
            refine o_storeN (i := 3) (vs := [.int .i64 (((Greedy.access hh (⟨l[i], 1, 1, 0⟩ : DItem)).1).room), .int .i64 (((Greedy.access hh (⟨l[i], 1, 1, 0⟩ : DItem)).1).floor), .slice a8_6 (((Greedy.access hh (⟨l[i], 1, 1, 0⟩ : DItem)).1).things).length c8_6]) (cs' := [.int .i64 (((Greedy.access hh (⟨l[i], 1, 1, 0⟩ : DItem)).1).room), .int .i64 (((Greedy.access hh (⟨l[i], 1, 1, 0⟩ : DItem)).1).floor), .slice a8_6 (((Greedy.access hh (⟨l[i], 1, 1, 0⟩ : DItem)).1).things).length c8_6]) rfl rfl rfl sz39 rfl rfl rfl rfl ?_
            refine o_nil ?_
            refine q_block_normal (q_then ?_)
            refine c_region ?_
            refine o_pure (p_move (v := .int .i64 (i : Int)) rfl) rfl rfl rfl ?_
            refine o_pure (p_addb (p := (i : Int)) (q := 1) rfl rfl (by omega)) rfl rfl rfl ?_
            refine o_pure (p_assign (v := .int .i64 ((i : Int) + 1)) rfl) rfl rfl rfl ?_
            refine o_nil ?_
            refine q_heap (H' := [box B8_12 [.int .i64 (((Greedy.access hh (⟨l[i], 1, 1, 0⟩ : DItem)).1).room), .int .i64 (((Greedy.access hh (⟨l[i], 1, 1, 0⟩ : DItem)).1).floor), .slice a8_6 (((Greedy.access hh (⟨l[i], 1, 1, 0⟩ : DItem)).1).things).length c8_6] 39, loose tItem (False) S8_6 a8_6 c8_6 (((Greedy.access hh (⟨l[i], 1, 1, 0⟩ : DItem)).1).things), loose tItem (False) Shh_0 ahh_0 chh_0 hh.things, box B3 [.int .i64 (((Greedy.access hh (⟨l[i], 1, 1, 0⟩ : DItem)).1).room), .int .i64 (((Greedy.access hh (⟨l[i], 1, 1, 0⟩ : DItem)).1).floor), .slice a8_6 (((Greedy.access hh (⟨l[i], 1, 1, 0⟩ : DItem)).1).things).length c8_6] 39, base w0]) (fun w hw => HeapIs.entLoose (i := 1) (T := tItem) rfl (fun w h => h.1) hw) ?_
            refine q_round hK5 (i + 1, ((Greedy.access hh (⟨l[i], 1, 1, 0⟩ : DItem)).1), a8_6, c8_6, S8_6) ?_ ?_ ?_ ?_
            · clear hK5
              exact ⟨hnx.1, by omega⟩
            · (try dsimp only); omega
            · exact Sub.cons rfl (Sub.cons rfl (Sub.cons rfl (Sub.cons rfl (Sub.nil _))))
            · exact fun _ hw => HeapIs.pick hw [1, 3, 4] (by decide) rfl
    · simp only [Bool.and_eq_false_iff, decide_eq_false_iff_not, Int.not_lt] at hc7
      refine c_exit ?_
      refine q_then_exit (q_then_exit (q_block_exit (q_then ?_)))
      refine c_seq ?_
      refine c_region ?_
      refine o_pure (p_assign (v := .bool true) rfl) rfl rfl rfl ?_
      refine o_nil ?_
      refine q_then ?_
      refine c_ret ?_
      refine q_end0 (v := .bool true) (rt1 rfl (r_tmp rfl)) (i := 2) rfl ?_
      exact rfl
end Go.Proofs.Ythbfdhphnofacab
