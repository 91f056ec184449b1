/- The walks, printed by a program from the translation and a specification. -/
import Derived.Test.YthbfdhphnofacabGrF
import Derived.Test.YthbfdhphnofacabGrLaw3
import Derived.Test.YthbfdhphnofacabGrW5
namespace Go.Proofs.Ythbfdhphnofacab
open Go.Sx Go.RowKit
set_option maxHeartbeats 8000000 in
set_option maxRecDepth 100000 in
theorem greedyFits_ok (h : DGreedy) (ah_0 : Option Addr) (ch_0 : Nat) (l : List DItem) (al : Option Addr) (cl : Nat) : Fn0 Try.prog 6 [.agg #[.int .i64 h.room, .int .i64 h.floor, .slice ah_0 h.things.length ch_0], .slice al l.length cl] (fun w => Rd tItem w ah_0 ch_0 h.things ∧ Rd tItem w al cl l) (.bool true) := by
  refine fn0 (nt := 105) (F0 := [(0, .agg #[.int .i64 h.room, .int .i64 h.floor, .slice ah_0 h.things.length ch_0]), (1, .slice al l.length cl)]) Try.func6 rfl Try.ntmps6 rfl rfl (fun w0 hpre => ?_)
  obtain ⟨hh_0, hl⟩ := hpre
  have hlhh_0 := hh_0.2.1
  have hlhl := hl.2.1
  refine c_seq ?_
  refine c_region ?_
  refine o_box (v := .agg #[.int .i64 h.room, .int .i64 h.floor, .slice ah_0 h.things.length ch_0]) rfl rfl (fun B1 => ?_)
  refine o_pure (p_assign (v := .bool false) rfl) rfl rfl rfl ?_
  refine o_nil ?_
  refine q_then ?_
  refine c_seq ?_
  refine c_seq ?_
  refine c_region ?_
  refine o_call0 (v := .bool true) rfl (hoardBegun_ok ) hf32 (fun _ _ => trivial) rfl ?_
  refine o_pure (p_not (b := true) rfl) rfl rfl rfl ?_
  refine o_nil ?_
  refine q_then ?_
  refine c_false rfl ?_
  refine c_skip ?_
  refine q_then ?_
  refine c_seq ?_
  refine c_seq ?_
  refine c_region ?_
  refine o_pure (p_assign (v := .int .i64 0) rfl) rfl rfl rfl ?_
  refine o_nil ?_
  refine q_then ?_
  refine c_block ?_
  refine c_heap (H' := [loose tItem (ah_0 = ah_0 ∧ ch_0 = ch_0 ∧ h.things = h.things) (fun _ => False) ah_0 ch_0 h.things, box B1 [.int .i64 h.room, .int .i64 h.floor, .slice ah_0 h.things.length ch_0] 39, base w0]) (fun w hw => HeapIs.looseOf ⟨rfl, rfl, rfl⟩ hw) ?_
  refine c_loop (St := Nat × DGreedy × Option Addr × Nat × (Nat → Prop))
    (fun ⟨i, hh, ahh_0, chh_0, Shh_0⟩ => [(1, .slice al l.length cl), (2, .pointer (some ⟨B1, 0, none⟩)), (5, .int .i64 (i : Int))])
    (fun ⟨i, hh, ahh_0, chh_0, Shh_0⟩ => [loose tItem (ahh_0 = ah_0 ∧ chh_0 = ch_0 ∧ hh.things = h.things) Shh_0 ahh_0 chh_0 hh.things, box B1 [.int .i64 hh.room, .int .i64 hh.floor, .slice ahh_0 hh.things.length chh_0] 39, base w0])
    (fun ⟨i, hh, ahh_0, chh_0, Shh_0⟩ => i ≤ l.length)
    (fun ⟨i, hh, ahh_0, chh_0, Shh_0⟩ => l.length - i)
    (0, h, ah_0, ch_0, (fun _ => False)) ?_ (Sub.cons rfl (Sub.cons rfl (Sub.cons rfl (Sub.nil _)))) (fun _ hw => hw) ?_
  · exact Nat.zero_le _
  rintro ⟨i, hh, ahh_0, chh_0, Shh_0⟩ hI K hK3
  show SC _ _ Try.prog 105 w0 _ _ [(1, .slice al l.length cl), (2, .pointer (some ⟨B1, 0, none⟩)), (5, .int .i64 (i : Int))] [loose tItem (ahh_0 = ah_0 ∧ chh_0 = ch_0 ∧ hh.things = h.things) Shh_0 ahh_0 chh_0 hh.things, box B1 [.int .i64 hh.room, .int .i64 hh.floor, .slice ahh_0 hh.things.length chh_0] 39, base w0]
  refine c_seq ?_
  refine c_seq ?_
  refine c_region ?_
  refine o_pure (p_move (v := .int .i64 (i : Int)) rfl) rfl rfl rfl ?_
  refine o_pure (p_move (v := .slice al l.length cl) rfl) rfl rfl rfl ?_
  refine o_pure (p_len_slice (len := l.length) rfl rfl Try.underlying37) rfl rfl rfl ?_
  refine o_pure (p_lt (p := (i : Int)) (q := (l.length : Int)) rfl rfl) rfl rfl rfl ?_
  refine o_pure (p_move (v := .bool (decide ((i : Int) < (l.length : Int)))) rfl) rfl rfl rfl ?_
  refine o_and (p := 21) 3 (decide ((i : Int) < 60)) ?_ ?_ ?_
  · intro hb4 hk
    simp only [decide_eq_true_eq] at hb4
    refine o_unguard 18 rfl rfl ?_
    refine o_pure (p_move (v := .int .i64 (i : Int)) rfl) rfl rfl rfl ?_
    refine o_unguard 18 rfl rfl ?_
    refine o_pure (p_lt (p := (i : Int)) (q := 60) rfl rfl) rfl rfl rfl ?_
    refine o_pure (p_pick_true (u := .bool (decide ((i : Int) < 60))) rfl rfl) rfl rfl rfl ?_
    exact o_sub (Sub.cons rfl (Sub.skip rfl (Sub.skip rfl (Sub.skip rfl (Sub.skip rfl (Sub.refl _)))))) hk
  · intro hb4 hk
    refine o_guard_no rfl 18 rfl rfl rfl rfl rfl ?_
    refine o_guard_no rfl 18 rfl rfl rfl rfl rfl ?_
    refine o_pure (p_pick_false (v := .bool false) rfl rfl) rfl rfl rfl ?_
    exact o_sub (Sub.cons rfl (Sub.skip rfl (Sub.skip rfl (Sub.skip rfl (Sub.skip rfl (Sub.refl _)))))) hk
  refine o_nil ?_
  refine q_then ?_
  refine c_cond (b := (decide ((i : Int) < (l.length : Int)) && decide ((i : Int) < 60))) rfl (fun hc5 => ?_) (fun hc5 => ?_)
  · simp only [Bool.and_eq_true, decide_eq_true_eq] at hc5
    refine c_skip ?_
    refine q_then ?_
    refine c_seq ?_
    refine c_block ?_
    refine c_seq ?_
    refine c_cut (G := (Nat → Prop) × Option Addr × Nat × Option Addr × Nat × Nat) (fun ⟨S6_5, a6_5, c6_5, a6_5_1, c6_5_1, B6_11⟩ => [(1, .slice al l.length cl), (2, .pointer (some ⟨B1, 0, none⟩)), (5, .int .i64 (i : Int)), (6, .pointer (some ⟨B6_11, 0, none⟩)), (7, .bool ((Greedy.access hh (l[i])).2.1)), (8, .slice a6_5_1 ((Greedy.access hh (l[i])).2.2).length c6_5_1), (9, .int .i64 (Greedy.accessErr hh (l[i])))]) (fun ⟨S6_5, a6_5, c6_5, a6_5_1, c6_5_1, B6_11⟩ => [box B6_11 [.int .i64 (((Greedy.access hh (l[i])).1).room), .int .i64 (((Greedy.access hh (l[i])).1).floor), .slice a6_5 (((Greedy.access hh (l[i])).1).things).length c6_5] 39, ⟨S6_5, fun w => SlR tItem S6_5 w a6_5 c6_5 (((Greedy.access hh (l[i])).1).things) ∧ SlR tInt S6_5 w a6_5_1 c6_5_1 ((Greedy.access hh (l[i])).2.2)⟩, loose tItem (ahh_0 = ah_0 ∧ chh_0 = ch_0 ∧ hh.things = h.things) Shh_0 ahh_0 chh_0 hh.things, box B1 [.int .i64 hh.room, .int .i64 hh.floor, .slice ahh_0 hh.things.length chh_0] 39, base w0]) (fun K hK7 => ?_) ?_
    · refine c_held hmix [loose tItem (ahh_0 = ah_0 ∧ chh_0 = ch_0 ∧ hh.things = h.things) Shh_0 ahh_0 chh_0 hh.things, box B1 [.int .i64 hh.room, .int .i64 hh.floor, .slice ahh_0 hh.things.length chh_0] 39, base w0] rfl rfl ?_
      refine h_take (i := 0) (ls := #[true, false, false, false, false, false, false, false, false, false, false, false, false, false, false, false]) rfl (by kernel_rfl) (by kernel_rfl) (by kernel_rfl) (fun _ _ _ h => h) (p_load_agg (i := 1) (vs := [.int .i64 hh.room, .int .i64 hh.floor, .slice ahh_0 hh.things.length chh_0]) rfl rfl sh39 rfl rfl) rfl rfl rfl (fun _ hw => HeapIs.drop hw (List.Sublist.refl _)) rfl ?_
      refine h_take (i := 1) (ls := #[true, true, false, false, false, false, false, false, false, false, false, false, false, false, false, false]) rfl (by kernel_rfl) (by kernel_rfl) (by kernel_rfl) (fun _ _ _ h => h) (p_move (v := .slice al l.length cl) rfl) rfl rfl rfl (fun _ hw => HeapIs.drop hw (List.Sublist.refl _)) rfl ?_
      refine h_take (i := 2) (ls := #[true, true, true, false, false, false, false, false, false, false, false, false, false, false, false, false]) rfl (by kernel_rfl) (by kernel_rfl) (by kernel_rfl) (fun _ _ _ h => h) (p_move (v := .int .i64 (i : Int)) rfl) rfl rfl rfl (fun _ hw => HeapIs.drop hw (List.Sublist.refl _)) rfl ?_
      refine h_take (i := 3) (ls := #[true, true, true, true, false, false, false, false, false, false, false, false, false, false, false, false]) rfl (by kernel_rfl) (by kernel_rfl) (by kernel_rfl) (fun _ _ _ h => h) (p_indexAddr (L := l) (T := tItem) (i := (i : Int)) rfl rfl (rd_base (i := 2) rfl hl) Try.underlying37 sz41 (by omega) (by omega)) rfl rfl rfl (fun _ hw => HeapIs.drop hw (List.Sublist.refl _)) rfl ?_
      refine h_take (i := 4) (ls := #[true, true, true, true, true, false, false, false, false, false, false, false, false, false, false, false]) rfl (by kernel_rfl) (by kernel_rfl) (by kernel_rfl) (fun _ _ _ h => h) (p_loadEn (i := i) (T := tItem) (L := l) (vs := [.int .i64 ((l[i]).key), .int .i64 ((l[i]).size), .int .i64 ((l[i]).cost), .int .i64 ((l[i]).worth)]) rfl (rd_base (i := 2) rfl hl) (by first | assumption | omega) sh41 rfl) rfl rfl rfl (fun _ hw => HeapIs.drop hw (List.Sublist.refl _)) rfl ?_
      refine h_two (i := 5) (j := 11) (ls := #[true, true, true, true, true, true, false, false, false, false, false, false, false, false, false, false]) (ls' := #[true, true, true, true, true, false, false, false, false, false, false, true, false, false, false, false]) (by kernel_rfl) rfl rfl rfl rfl ?_ ?_
      · refine o_callM rfl (gaccess_ok hh ahh_0 chh_0 (l[i])) hf24 (fun w hw => (rd_loose (i := 0) rfl (fun hφ => by obtain ⟨h1, h2, h3⟩ := hφ; rw [h1, h2, h3]; exact (rd_base (i := 2) rfl hh_0))) w hw) rfl (fun _ _ _ _ ha hA => ⟨SlR.agree ha hA.1, SlR.agree ha hA.2⟩) ?_
        rintro ⟨a6_5, c6_5, a6_5_1, c6_5_1⟩ S6_5
        refine o_know (fun w hw => (hw.at (i := 0) rfl).here.1.2.1) (fun hlr6_5 => ?_)
        refine o_know (fun w hw => (hw.at (i := 0) rfl).here.2.2.1) (fun hlr6_5_1 => ?_)
        refine o_nil ?_
        refine h_next (fun _ hw => HeapIs.drop hw (List.Sublist.cons _ (List.Sublist.cons_cons _ (List.Sublist.cons_cons _ (List.Sublist.cons_cons _ (List.Sublist.slnil)))))) ?_
        refine h_take (i := 6) (ls := #[true, true, true, true, true, true, true, false, false, false, false, false, false, false, false, false]) rfl (by kernel_rfl) (by kernel_rfl) (by kernel_rfl) (fun _ _ _ h => h) (p_move (v := .tuple #[.agg #[.int .i64 (((Greedy.access hh (l[i])).1).room), .int .i64 (((Greedy.access hh (l[i])).1).floor), .slice a6_5 (((Greedy.access hh (l[i])).1).things).length c6_5], .bool ((Greedy.access hh (l[i])).2.1), .slice a6_5_1 ((Greedy.access hh (l[i])).2.2).length c6_5_1, .int .i64 (Greedy.accessErr hh (l[i]))]) rfl) rfl rfl rfl (fun _ hw => HeapIs.drop hw (List.Sublist.cons _ (List.Sublist.cons_cons _ (List.Sublist.cons_cons _ (List.Sublist.cons_cons _ (List.Sublist.slnil)))))) rfl ?_
        refine h_take (i := 7) (ls := #[true, true, true, true, true, true, true, true, false, false, false, false, false, false, false, false]) rfl (by kernel_rfl) (by kernel_rfl) (by kernel_rfl) (fun _ _ _ h => h) (p_extract (vs := [.agg #[.int .i64 (((Greedy.access hh (l[i])).1).room), .int .i64 (((Greedy.access hh (l[i])).1).floor), .slice a6_5 (((Greedy.access hh (l[i])).1).things).length c6_5], .bool ((Greedy.access hh (l[i])).2.1), .slice a6_5_1 ((Greedy.access hh (l[i])).2.2).length c6_5_1, .int .i64 (Greedy.accessErr hh (l[i]))]) (v := .agg #[.int .i64 (((Greedy.access hh (l[i])).1).room), .int .i64 (((Greedy.access hh (l[i])).1).floor), .slice a6_5 (((Greedy.access hh (l[i])).1).things).length c6_5]) rfl rfl) rfl rfl rfl (fun _ hw => HeapIs.drop hw (List.Sublist.cons _ (List.Sublist.cons_cons _ (List.Sublist.cons_cons _ (List.Sublist.cons_cons _ (List.Sublist.slnil)))))) rfl ?_
        refine h_take (i := 8) (ls := #[true, true, true, true, true, true, true, true, true, false, false, false, false, false, false, false]) rfl (by kernel_rfl) (by kernel_rfl) (by kernel_rfl) (fun _ _ _ h => h) (p_extract (vs := [.agg #[.int .i64 (((Greedy.access hh (l[i])).1).room), .int .i64 (((Greedy.access hh (l[i])).1).floor), .slice a6_5 (((Greedy.access hh (l[i])).1).things).length c6_5], .bool ((Greedy.access hh (l[i])).2.1), .slice a6_5_1 ((Greedy.access hh (l[i])).2.2).length c6_5_1, .int .i64 (Greedy.accessErr hh (l[i]))]) (v := .bool ((Greedy.access hh (l[i])).2.1)) rfl rfl) rfl rfl rfl (fun _ hw => HeapIs.drop hw (List.Sublist.cons _ (List.Sublist.cons_cons _ (List.Sublist.cons_cons _ (List.Sublist.cons_cons _ (List.Sublist.slnil)))))) rfl ?_
        refine h_take (i := 9) (ls := #[true, true, true, true, true, true, true, true, true, true, false, false, false, false, false, false]) rfl (by kernel_rfl) (by kernel_rfl) (by kernel_rfl) (fun _ _ _ h => h) (p_extract (vs := [.agg #[.int .i64 (((Greedy.access hh (l[i])).1).room), .int .i64 (((Greedy.access hh (l[i])).1).floor), .slice a6_5 (((Greedy.access hh (l[i])).1).things).length c6_5], .bool ((Greedy.access hh (l[i])).2.1), .slice a6_5_1 ((Greedy.access hh (l[i])).2.2).length c6_5_1, .int .i64 (Greedy.accessErr hh (l[i]))]) (v := .slice a6_5_1 ((Greedy.access hh (l[i])).2.2).length c6_5_1) rfl rfl) rfl rfl rfl (fun _ hw => HeapIs.drop hw (List.Sublist.cons _ (List.Sublist.cons_cons _ (List.Sublist.cons_cons _ (List.Sublist.cons_cons _ (List.Sublist.slnil)))))) rfl ?_
        refine h_take (i := 10) (ls := #[true, true, true, true, true, true, true, true, true, true, true, false, false, false, false, false]) rfl (by kernel_rfl) (by kernel_rfl) (by kernel_rfl) (fun _ _ _ h => h) (p_extract (vs := [.agg #[.int .i64 (((Greedy.access hh (l[i])).1).room), .int .i64 (((Greedy.access hh (l[i])).1).floor), .slice a6_5 (((Greedy.access hh (l[i])).1).things).length c6_5], .bool ((Greedy.access hh (l[i])).2.1), .slice a6_5_1 ((Greedy.access hh (l[i])).2.2).length c6_5_1, .int .i64 (Greedy.accessErr hh (l[i]))]) (v := .int .i64 (Greedy.accessErr hh (l[i]))) rfl rfl) rfl rfl rfl (fun _ hw => HeapIs.drop hw (List.Sublist.cons _ (List.Sublist.cons_cons _ (List.Sublist.cons_cons _ (List.Sublist.cons_cons _ (List.Sublist.slnil)))))) rfl ?_
        refine h_one (i := 11) (ls := #[true, true, true, true, true, true, true, true, true, true, true, true, false, false, false, false]) (by kernel_rfl) rfl rfl ?_
        refine o_alloc ze39 rfl (fun B6_11 => ?_)
        refine o_nil ?_
        refine h_next (fun _ hw => HeapIs.drop hw (List.Sublist.cons _ (List.Sublist.cons _ (List.Sublist.cons_cons _ (List.Sublist.cons_cons _ (List.Sublist.cons_cons _ (List.Sublist.slnil))))))) ?_
        refine h_one (i := 12) (ls := #[true, true, true, true, true, true, true, true, true, true, true, true, true, false, false, false]) (by kernel_rfl) rfl rfl ?_
        refine o_storeN (i := 0) (vs := [.int .i64 (((Greedy.access hh (l[i])).1).room), .int .i64 (((Greedy.access hh (l[i])).1).floor), .slice a6_5 (((Greedy.access hh (l[i])).1).things).length c6_5]) (cs' := [.int .i64 (((Greedy.access hh (l[i])).1).room), .int .i64 (((Greedy.access hh (l[i])).1).floor), .slice a6_5 (((Greedy.access hh (l[i])).1).things).length c6_5]) rfl rfl rfl sz39 rfl rfl rfl rfl ?_
        refine o_nil ?_
        refine h_next (fun _ hw => HeapIs.drop hw (List.Sublist.cons _ (List.Sublist.cons _ (List.Sublist.cons_cons _ (List.Sublist.cons_cons _ (List.Sublist.cons_cons _ (List.Sublist.slnil))))))) ?_
        refine h_take (i := 13) (ls := #[true, true, true, true, true, true, true, true, true, true, true, true, true, true, false, false]) rfl (by kernel_rfl) (by kernel_rfl) (by kernel_rfl) (fun _ _ _ h => h) (p_assign (v := .bool ((Greedy.access hh (l[i])).2.1)) rfl) rfl rfl rfl (fun _ hw => HeapIs.drop hw (List.Sublist.cons _ (List.Sublist.cons _ (List.Sublist.cons_cons _ (List.Sublist.cons_cons _ (List.Sublist.cons_cons _ (List.Sublist.slnil))))))) rfl ?_
        refine h_take (i := 14) (ls := #[true, true, true, true, true, true, true, true, true, true, true, true, true, true, true, false]) rfl (by kernel_rfl) (by kernel_rfl) (by kernel_rfl) (fun _ _ _ h => h) (p_assign (v := .slice a6_5_1 ((Greedy.access hh (l[i])).2.2).length c6_5_1) rfl) rfl rfl rfl (fun _ hw => HeapIs.drop hw (List.Sublist.cons _ (List.Sublist.cons _ (List.Sublist.cons_cons _ (List.Sublist.cons_cons _ (List.Sublist.cons_cons _ (List.Sublist.slnil))))))) rfl ?_
        refine h_take (i := 15) (ls := #[true, true, true, true, true, true, true, true, true, true, true, true, true, true, true, true]) rfl (by kernel_rfl) (by kernel_rfl) (by kernel_rfl) (fun _ _ _ h => h) (p_assign (v := .int .i64 (Greedy.accessErr hh (l[i]))) rfl) rfl rfl rfl (fun _ hw => HeapIs.drop hw (List.Sublist.cons _ (List.Sublist.cons _ (List.Sublist.cons_cons _ (List.Sublist.cons_cons _ (List.Sublist.cons_cons _ (List.Sublist.slnil))))))) rfl ?_
        refine h_done (by kernel_rfl) ?_
        refine q_kont hK7 (S6_5, a6_5, c6_5, a6_5_1, c6_5_1, B6_11) (Sub.cons rfl (Sub.cons rfl (Sub.cons rfl (Sub.cons rfl (Sub.cons rfl (Sub.cons rfl (Sub.cons rfl (Sub.nil _)))))))) (fun _ hw => HeapIs.pick hw [0, 1, 2, 3, 4] (by decide) rfl)
      · refine o_alloc ze39 rfl (fun B6_11 => ?_)
        refine o_nil ?_
        refine h_next (fun _ hw => HeapIs.drop hw (List.Sublist.cons _ (List.Sublist.cons_cons _ (List.Sublist.cons_cons _ (List.Sublist.cons_cons _ (List.Sublist.slnil)))))) ?_
        refine h_one (i := 5) (ls := #[true, true, true, true, true, true, false, false, false, false, false, true, false, false, false, false]) (by kernel_rfl) rfl rfl ?_
        refine o_callM rfl (gaccess_ok hh ahh_0 chh_0 (l[i])) hf24 (fun w hw => (rd_loose (i := 1) rfl (fun hφ => by obtain ⟨h1, h2, h3⟩ := hφ; rw [h1, h2, h3]; exact (rd_base (i := 3) rfl hh_0))) w hw) rfl (fun _ _ _ _ ha hA => ⟨SlR.agree ha hA.1, SlR.agree ha hA.2⟩) ?_
        rintro ⟨a6_5, c6_5, a6_5_1, c6_5_1⟩ S6_5
        refine o_know (fun w hw => (hw.at (i := 0) rfl).here.1.2.1) (fun hlr6_5 => ?_)
        refine o_know (fun w hw => (hw.at (i := 0) rfl).here.2.2.1) (fun hlr6_5_1 => ?_)
        refine o_nil ?_
        refine h_next (fun _ hw => HeapIs.drop hw (List.Sublist.cons _ (List.Sublist.cons _ (List.Sublist.cons_cons _ (List.Sublist.cons_cons _ (List.Sublist.cons_cons _ (List.Sublist.slnil))))))) ?_
        refine h_take (i := 6) (ls := #[true, true, true, true, true, true, true, false, false, false, false, true, false, false, false, false]) rfl (by kernel_rfl) (by kernel_rfl) (by kernel_rfl) (fun _ _ _ h => h) (p_move (v := .tuple #[.agg #[.int .i64 (((Greedy.access hh (l[i])).1).room), .int .i64 (((Greedy.access hh (l[i])).1).floor), .slice a6_5 (((Greedy.access hh (l[i])).1).things).length c6_5], .bool ((Greedy.access hh (l[i])).2.1), .slice a6_5_1 ((Greedy.access hh (l[i])).2.2).length c6_5_1, .int .i64 (Greedy.accessErr hh (l[i]))]) rfl) rfl rfl rfl (fun _ hw => HeapIs.drop hw (List.Sublist.cons _ (List.Sublist.cons _ (List.Sublist.cons_cons _ (List.Sublist.cons_cons _ (List.Sublist.cons_cons _ (List.Sublist.slnil))))))) rfl ?_
        refine h_take (i := 7) (ls := #[true, true, true, true, true, true, true, true, false, false, false, true, false, false, false, false]) rfl (by kernel_rfl) (by kernel_rfl) (by kernel_rfl) (fun _ _ _ h => h) (p_extract (vs := [.agg #[.int .i64 (((Greedy.access hh (l[i])).1).room), .int .i64 (((Greedy.access hh (l[i])).1).floor), .slice a6_5 (((Greedy.access hh (l[i])).1).things).length c6_5], .bool ((Greedy.access hh (l[i])).2.1), .slice a6_5_1 ((Greedy.access hh (l[i])).2.2).length c6_5_1, .int .i64 (Greedy.accessErr hh (l[i]))]) (v := .agg #[.int .i64 (((Greedy.access hh (l[i])).1).room), .int .i64 (((Greedy.access hh (l[i])).1).floor), .slice a6_5 (((Greedy.access hh (l[i])).1).things).length c6_5]) rfl rfl) rfl rfl rfl (fun _ hw => HeapIs.drop hw (List.Sublist.cons _ (List.Sublist.cons _ (List.Sublist.cons_cons _ (List.Sublist.cons_cons _ (List.Sublist.cons_cons _ (List.Sublist.slnil))))))) rfl ?_
        refine h_take (i := 8) (ls := #[true, true, true, true, true, true, true, true, true, false, false, true, false, false, false, false]) rfl (by kernel_rfl) (by kernel_rfl) (by kernel_rfl) (fun _ _ _ h => h) (p_extract (vs := [.agg #[.int .i64 (((Greedy.access hh (l[i])).1).room), .int .i64 (((Greedy.access hh (l[i])).1).floor), .slice a6_5 (((Greedy.access hh (l[i])).1).things).length c6_5], .bool ((Greedy.access hh (l[i])).2.1), .slice a6_5_1 ((Greedy.access hh (l[i])).2.2).length c6_5_1, .int .i64 (Greedy.accessErr hh (l[i]))]) (v := .bool ((Greedy.access hh (l[i])).2.1)) rfl rfl) rfl rfl rfl (fun _ hw => HeapIs.drop hw (List.Sublist.cons _ (List.Sublist.cons _ (List.Sublist.cons_cons _ (List.Sublist.cons_cons _ (List.Sublist.cons_cons _ (List.Sublist.slnil))))))) rfl ?_
        refine h_take (i := 9) (ls := #[true, true, true, true, true, true, true, true, true, true, false, true, false, false, false, false]) rfl (by kernel_rfl) (by kernel_rfl) (by kernel_rfl) (fun _ _ _ h => h) (p_extract (vs := [.agg #[.int .i64 (((Greedy.access hh (l[i])).1).room), .int .i64 (((Greedy.access hh (l[i])).1).floor), .slice a6_5 (((Greedy.access hh (l[i])).1).things).length c6_5], .bool ((Greedy.access hh (l[i])).2.1), .slice a6_5_1 ((Greedy.access hh (l[i])).2.2).length c6_5_1, .int .i64 (Greedy.accessErr hh (l[i]))]) (v := .slice a6_5_1 ((Greedy.access hh (l[i])).2.2).length c6_5_1) rfl rfl) rfl rfl rfl (fun _ hw => HeapIs.drop hw (List.Sublist.cons _ (List.Sublist.cons _ (List.Sublist.cons_cons _ (List.Sublist.cons_cons _ (List.Sublist.cons_cons _ (List.Sublist.slnil))))))) rfl ?_
        refine h_take (i := 10) (ls := #[true, true, true, true, true, true, true, true, true, true, true, true, false, false, false, false]) rfl (by kernel_rfl) (by kernel_rfl) (by kernel_rfl) (fun _ _ _ h => h) (p_extract (vs := [.agg #[.int .i64 (((Greedy.access hh (l[i])).1).room), .int .i64 (((Greedy.access hh (l[i])).1).floor), .slice a6_5 (((Greedy.access hh (l[i])).1).things).length c6_5], .bool ((Greedy.access hh (l[i])).2.1), .slice a6_5_1 ((Greedy.access hh (l[i])).2.2).length c6_5_1, .int .i64 (Greedy.accessErr hh (l[i]))]) (v := .int .i64 (Greedy.accessErr hh (l[i]))) rfl rfl) rfl rfl rfl (fun _ hw => HeapIs.drop hw (List.Sublist.cons _ (List.Sublist.cons _ (List.Sublist.cons_cons _ (List.Sublist.cons_cons _ (List.Sublist.cons_cons _ (List.Sublist.slnil))))))) rfl ?_
        refine h_one (i := 12) (ls := #[true, true, true, true, true, true, true, true, true, true, true, true, true, false, false, false]) (by kernel_rfl) rfl rfl ?_
        refine o_storeN (i := 1) (vs := [.int .i64 (((Greedy.access hh (l[i])).1).room), .int .i64 (((Greedy.access hh (l[i])).1).floor), .slice a6_5 (((Greedy.access hh (l[i])).1).things).length c6_5]) (cs' := [.int .i64 (((Greedy.access hh (l[i])).1).room), .int .i64 (((Greedy.access hh (l[i])).1).floor), .slice a6_5 (((Greedy.access hh (l[i])).1).things).length c6_5]) rfl rfl rfl sz39 rfl rfl rfl rfl ?_
        refine o_nil ?_
        refine h_next (fun _ hw => HeapIs.drop hw (List.Sublist.cons _ (List.Sublist.cons _ (List.Sublist.cons_cons _ (List.Sublist.cons_cons _ (List.Sublist.cons_cons _ (List.Sublist.slnil))))))) ?_
        refine h_take (i := 13) (ls := #[true, true, true, true, true, true, true, true, true, true, true, true, true, true, false, false]) rfl (by kernel_rfl) (by kernel_rfl) (by kernel_rfl) (fun _ _ _ h => h) (p_assign (v := .bool ((Greedy.access hh (l[i])).2.1)) rfl) rfl rfl rfl (fun _ hw => HeapIs.drop hw (List.Sublist.cons _ (List.Sublist.cons _ (List.Sublist.cons_cons _ (List.Sublist.cons_cons _ (List.Sublist.cons_cons _ (List.Sublist.slnil))))))) rfl ?_
        refine h_take (i := 14) (ls := #[true, true, true, true, true, true, true, true, true, true, true, true, true, true, true, false]) rfl (by kernel_rfl) (by kernel_rfl) (by kernel_rfl) (fun _ _ _ h => h) (p_assign (v := .slice a6_5_1 ((Greedy.access hh (l[i])).2.2).length c6_5_1) rfl) rfl rfl rfl (fun _ hw => HeapIs.drop hw (List.Sublist.cons _ (List.Sublist.cons _ (List.Sublist.cons_cons _ (List.Sublist.cons_cons _ (List.Sublist.cons_cons _ (List.Sublist.slnil))))))) rfl ?_
        refine h_take (i := 15) (ls := #[true, true, true, true, true, true, true, true, true, true, true, true, true, true, true, true]) rfl (by kernel_rfl) (by kernel_rfl) (by kernel_rfl) (fun _ _ _ h => h) (p_assign (v := .int .i64 (Greedy.accessErr hh (l[i]))) rfl) rfl rfl rfl (fun _ hw => HeapIs.drop hw (List.Sublist.cons _ (List.Sublist.cons _ (List.Sublist.cons_cons _ (List.Sublist.cons_cons _ (List.Sublist.cons_cons _ (List.Sublist.slnil))))))) rfl ?_
        refine h_done (by kernel_rfl) ?_
        refine q_kont hK7 (S6_5, a6_5, c6_5, a6_5_1, c6_5_1, B6_11) (Sub.cons rfl (Sub.cons rfl (Sub.cons rfl (Sub.cons rfl (Sub.cons rfl (Sub.cons rfl (Sub.cons rfl (Sub.nil _)))))))) (fun _ hw => HeapIs.pick hw [1, 0, 2, 3, 4] (by decide) rfl)
    rintro ⟨S6_5, a6_5, c6_5, a6_5_1, c6_5_1, B6_11⟩
    show SQ _ 105 w0 _ _ [(1, .slice al l.length cl), (2, .pointer (some ⟨B1, 0, none⟩)), (5, .int .i64 (i : Int)), (6, .pointer (some ⟨B6_11, 0, none⟩)), (7, .bool ((Greedy.access hh (l[i])).2.1)), (8, .slice a6_5_1 ((Greedy.access hh (l[i])).2.2).length c6_5_1), (9, .int .i64 (Greedy.accessErr hh (l[i])))] [box B6_11 [.int .i64 (((Greedy.access hh (l[i])).1).room), .int .i64 (((Greedy.access hh (l[i])).1).floor), .slice a6_5 (((Greedy.access hh (l[i])).1).things).length c6_5] 39, ⟨S6_5, fun w => SlR tItem S6_5 w a6_5 c6_5 (((Greedy.access hh (l[i])).1).things) ∧ SlR tInt S6_5 w a6_5_1 c6_5_1 ((Greedy.access hh (l[i])).2.2)⟩, loose tItem (ahh_0 = ah_0 ∧ chh_0 = ch_0 ∧ hh.things = h.things) Shh_0 ahh_0 chh_0 hh.things, box B1 [.int .i64 hh.room, .int .i64 hh.floor, .slice ahh_0 hh.things.length chh_0] 39, base w0]
    refine q_know (fun w hw => (hw.at (i := 1) rfl).here.2.2.1) (fun hlr8 => ?_)
    refine q_know (fun w hw => (hw.at (i := 1) rfl).here.1.2.1) (fun hlr9 => ?_)
    refine q_then ?_
    refine c_seq ?_
    refine c_seq ?_
    refine c_region ?_
    refine o_pure (p_move (v := .int .i64 (Greedy.accessErr hh (l[i]))) rfl) rfl rfl rfl ?_
    refine o_pure (p_ne (p := (Greedy.accessErr hh (l[i]))) (q := 0) rfl rfl) rfl rfl rfl ?_
    refine o_nil ?_
    refine q_then ?_
    refine c_cond (b := ((Greedy.accessErr hh (l[i])) != 0)) rfl (fun hc10 => ?_) (fun hc10 => ?_)
    · simp only [bne_iff_ne, ne_eq] at hc10
      refine c_seq ?_
      refine c_region ?_
      refine o_pure (p_move (v := .slice a6_5_1 ((Greedy.access hh (l[i])).2.2).length c6_5_1) rfl) rfl rfl rfl ?_
      refine o_pure (p_len_slice (len := ((Greedy.access hh (l[i])).2.2).length) rfl rfl Try.underlying22) rfl rfl rfl ?_
      refine o_pure (p_eq (p := (((Greedy.access hh (l[i])).2.2).length : Int)) (q := 0) rfl rfl) rfl rfl rfl ?_
      refine o_pure (p_move (v := .bool ((((Greedy.access hh (l[i])).2.2).length : Int) == 0)) rfl) rfl rfl rfl ?_
      refine o_and (p := 43) 3 (!((Greedy.access hh (l[i])).2.1)) ?_ ?_ ?_
      · intro hb11 hk
        simp only [beq_iff_eq] at hb11
        refine o_unguard 40 rfl rfl ?_
        refine o_pure (p_move (v := .bool ((Greedy.access hh (l[i])).2.1)) rfl) rfl rfl rfl ?_
        refine o_unguard 40 rfl rfl ?_
        refine o_pure (p_not (b := ((Greedy.access hh (l[i])).2.1)) rfl) rfl rfl rfl ?_
        refine o_pure (p_pick_true (u := .bool (!((Greedy.access hh (l[i])).2.1))) rfl rfl) rfl rfl rfl ?_
        exact o_sub (Sub.cons rfl (Sub.skip rfl (Sub.skip rfl (Sub.skip rfl (Sub.skip rfl (Sub.refl _)))))) hk
      · intro hb11 hk
        refine o_guard_no rfl 40 rfl rfl rfl rfl rfl ?_
        refine o_guard_no rfl 40 rfl rfl rfl rfl rfl ?_
        refine o_pure (p_pick_false (v := .bool false) rfl rfl) rfl rfl rfl ?_
        exact o_sub (Sub.cons rfl (Sub.skip rfl (Sub.skip rfl (Sub.skip rfl (Sub.skip rfl (Sub.refl _)))))) hk
      refine o_pure (p_move (v := .bool (((((Greedy.access hh (l[i])).2.2).length : Int) == 0) && (!((Greedy.access hh (l[i])).2.1)))) rfl) rfl rfl rfl ?_
      refine o_and (p := 48) 4 (((Greedy.access hh (l[i])).1).room == 0) ?_ ?_ ?_
      · intro hb12 hk
        simp only [Bool.and_eq_true, beq_iff_eq, Bool.not_eq_true'] at hb12
        refine o_unguard 44 rfl rfl ?_
        refine o_pure (p_fieldAddr (B := B6_11) (j := 0) (j' := 0) rfl fo39_0 rfl) rfl rfl rfl ?_
        refine o_unguard 44 rfl rfl ?_
        refine o_pure (p_load (i := 0) (v := .int .i64 (((Greedy.access hh (l[i])).1).room)) rfl rfl sh3 rfl) rfl rfl rfl ?_
        refine o_unguard 44 rfl rfl ?_
        refine o_pure (p_eq (p := ((Greedy.access hh (l[i])).1).room) (q := 0) rfl rfl) rfl rfl rfl ?_
        refine o_pure (p_pick_true (u := .bool (((Greedy.access hh (l[i])).1).room == 0)) rfl rfl) rfl rfl rfl ?_
        exact o_sub (Sub.cons rfl (Sub.skip rfl (Sub.skip rfl (Sub.skip rfl (Sub.skip rfl (Sub.skip rfl (Sub.refl _))))))) hk
      · intro hb12 hk
        refine o_guard_no rfl 44 rfl rfl rfl rfl rfl ?_
        refine o_guard_no rfl 44 rfl rfl rfl rfl rfl ?_
        refine o_guard_no rfl 44 rfl rfl rfl rfl rfl ?_
        refine o_pure (p_pick_false (v := .bool false) rfl rfl) rfl rfl rfl ?_
        exact o_sub (Sub.cons rfl (Sub.skip rfl (Sub.skip rfl (Sub.skip rfl (Sub.skip rfl (Sub.skip rfl (Sub.refl _))))))) hk
      refine o_pure (p_assign (v := .bool ((((((Greedy.access hh (l[i])).2.2).length : Int) == 0) && (!((Greedy.access hh (l[i])).2.1))) && (((Greedy.access hh (l[i])).1).room == 0))) rfl) rfl rfl rfl ?_
      refine o_nil ?_
      refine q_then ?_
      refine c_ret ?_
      refine q_then_ret (q_block_ret (q_then_ret (q_then_ret (q_block_ret (q_then_ret ?_)))))
      have hr0 : (((((((Greedy.access hh (l[i])).2.2).length : Int) == 0) && (!((Greedy.access hh (l[i])).2.1))) && (((Greedy.access hh (l[i])).1).room == 0)) : Bool) = true := by
        first | rfl | (rw [Greedy.fits_bad (by assumption)]; rfl)
      refine q_end0 (v := .bool ((((((Greedy.access hh (l[i])).2.2).length : Int) == 0) && (!((Greedy.access hh (l[i])).2.1))) && (((Greedy.access hh (l[i])).1).room == 0))) (rt1 rfl (r_tmp rfl)) (i := 4) rfl ?_
      exact (by have hcc := congrArg (fun (y0 : Bool) => (.bool y0 : Value)) hr0; exact hcc)
    · simp only [bne_eq_false_iff_eq] at hc10
      refine c_skip ?_
      refine q_then ?_
      refine c_seq ?_
      refine c_region ?_
      refine o_pure (p_assign (v := .bool false) rfl) rfl rfl rfl ?_
      refine o_nil ?_
      refine q_then ?_
      refine c_seq ?_
      refine c_seq ?_
      refine c_region ?_
      refine o_pure (p_assign (v := .int .i64 0) rfl) rfl rfl rfl ?_
      refine o_nil ?_
      refine q_then ?_
      refine c_block ?_
      refine c_loop (St := Bool × Nat)
        (fun ⟨there_, k⟩ => [(1, .slice al l.length cl), (2, .pointer (some ⟨B1, 0, none⟩)), (5, .int .i64 (i : Int)), (6, .pointer (some ⟨B6_11, 0, none⟩)), (7, .bool ((Greedy.access hh (l[i])).2.1)), (8, .slice a6_5_1 ((Greedy.access hh (l[i])).2.2).length c6_5_1), (10, .bool there_), (11, .int .i64 (k : Int))])
        (fun ⟨there_, k⟩ => [box B6_11 [.int .i64 (((Greedy.access hh (l[i])).1).room), .int .i64 (((Greedy.access hh (l[i])).1).floor), .slice a6_5 (((Greedy.access hh (l[i])).1).things).length c6_5] 39, ⟨S6_5, fun w => SlR tItem S6_5 w a6_5 c6_5 (((Greedy.access hh (l[i])).1).things) ∧ SlR tInt S6_5 w a6_5_1 c6_5_1 ((Greedy.access hh (l[i])).2.2)⟩, loose tItem (ahh_0 = ah_0 ∧ chh_0 = ch_0 ∧ hh.things = h.things) Shh_0 ahh_0 chh_0 hh.things, box B1 [.int .i64 hh.room, .int .i64 hh.floor, .slice ahh_0 hh.things.length chh_0] 39, base w0])
        (fun ⟨there_, k⟩ => Greedy.TInv (Greedy.access hh l[i]).1.things (l[i]).key there_ k)
        (fun ⟨there_, k⟩ => (Greedy.access hh l[i]).1.things.length - k)
        (false, 0) ?_ (Sub.cons rfl (Sub.cons rfl (Sub.cons rfl (Sub.cons rfl (Sub.cons rfl (Sub.cons rfl (Sub.cons rfl (Sub.cons rfl (Sub.nil _))))))))) (fun _ hw => hw) ?_
      · exact Greedy.TInv.start _ _
      rintro ⟨there_, k⟩ hI K hK13
      show SC _ _ Try.prog 105 w0 _ _ [(1, .slice al l.length cl), (2, .pointer (some ⟨B1, 0, none⟩)), (5, .int .i64 (i : Int)), (6, .pointer (some ⟨B6_11, 0, none⟩)), (7, .bool ((Greedy.access hh (l[i])).2.1)), (8, .slice a6_5_1 ((Greedy.access hh (l[i])).2.2).length c6_5_1), (10, .bool there_), (11, .int .i64 (k : Int))] [box B6_11 [.int .i64 (((Greedy.access hh (l[i])).1).room), .int .i64 (((Greedy.access hh (l[i])).1).floor), .slice a6_5 (((Greedy.access hh (l[i])).1).things).length c6_5] 39, ⟨S6_5, fun w => SlR tItem S6_5 w a6_5 c6_5 (((Greedy.access hh (l[i])).1).things) ∧ SlR tInt S6_5 w a6_5_1 c6_5_1 ((Greedy.access hh (l[i])).2.2)⟩, loose tItem (ahh_0 = ah_0 ∧ chh_0 = ch_0 ∧ hh.things = h.things) Shh_0 ahh_0 chh_0 hh.things, box B1 [.int .i64 hh.room, .int .i64 hh.floor, .slice ahh_0 hh.things.length chh_0] 39, base w0]
      refine c_seq ?_
      refine c_seq ?_
      refine c_region ?_
      refine o_pure (p_move (v := .int .i64 (k : Int)) rfl) rfl rfl rfl ?_
      refine o_pure (p_fieldAddr (B := B6_11) (j := 0) (j' := 2) rfl fo39_2 rfl) rfl rfl rfl ?_
      refine o_pure (p_load (i := 0) (v := .slice a6_5 (((Greedy.access hh (l[i])).1).things).length c6_5) rfl rfl sh37 rfl) rfl rfl rfl ?_
      refine o_pure (p_len_slice (len := (((Greedy.access hh (l[i])).1).things).length) rfl rfl Try.underlying37) rfl rfl rfl ?_
      refine o_pure (p_lt (p := (k : Int)) (q := ((((Greedy.access hh (l[i])).1).things).length : Int)) rfl rfl) rfl rfl rfl ?_
      refine o_nil ?_
      refine q_then ?_
      refine c_cond (b := decide ((k : Int) < ((((Greedy.access hh (l[i])).1).things).length : Int))) rfl (fun hc14 => ?_) (fun hc14 => ?_)
      · simp only [decide_eq_true_eq] at hc14
        refine c_skip ?_
        refine q_then ?_
        refine c_seq ?_
        refine c_block ?_
        refine c_draw hmix (by kernel_rfl) ?_
        refine w_pure (p_move (v := .bool there_) rfl) rfl rfl rfl ?_
        refine w_pure (p_move (v := .bool there_) rfl) rfl rfl rfl ?_
        refine w_or (p := 70) 13 (((((Greedy.access hh (l[i])).1).things)[k]).key == (l[i]).key) ?_ ?_ ?_
        · intro hb15 hk
          skip
          refine w_unguard 57 rfl rfl ?_
          refine w_pure (p_fieldAddr (B := B6_11) (j := 0) (j' := 2) rfl fo39_2 rfl) rfl rfl rfl ?_
          refine w_unguard 57 rfl rfl ?_
          refine w_pure (p_load (i := 0) (v := .slice a6_5 (((Greedy.access hh (l[i])).1).things).length c6_5) rfl rfl sh37 rfl) rfl rfl rfl ?_
          refine w_unguard 57 rfl rfl ?_
          refine w_pure (p_move (v := .int .i64 (k : Int)) rfl) rfl rfl rfl ?_
          refine w_unguard 57 rfl rfl ?_
          refine w_pure (p_indexAddr (L := ((Greedy.access hh (l[i])).1).things) (T := tItem) (i := (k : Int)) rfl rfl (rd_ent (i := 1) rfl (fun w h => h.1)) Try.underlying37 sz41 (by omega) (by omega)) rfl rfl rfl ?_
          refine w_unguard 57 rfl rfl ?_
          refine w_pure (p_fieldAddrE rfl fo41_0) rfl rfl rfl ?_
          refine w_unguard 57 rfl rfl ?_
          refine w_pure (p_loadF (i := k) (j := 0) (T := tItem) (L := ((Greedy.access hh (l[i])).1).things) (v := .int .i64 (((((Greedy.access hh (l[i])).1).things)[k]).key)) rfl (rd_ent (i := 1) rfl (fun w h => h.1)) (by first | assumption | omega) sh3 rfl) rfl rfl rfl ?_
          refine w_unguard 57 rfl rfl ?_
          refine w_pure (p_move (v := .slice al l.length cl) rfl) rfl rfl rfl ?_
          refine w_unguard 57 rfl rfl ?_
          refine w_pure (p_move (v := .int .i64 (i : Int)) rfl) rfl rfl rfl ?_
          refine w_unguard 57 rfl rfl ?_
          refine w_pure (p_indexAddr (L := l) (T := tItem) (i := (i : Int)) rfl rfl (rd_base (i := 4) rfl hl) Try.underlying37 sz41 (by omega) (by omega)) rfl rfl rfl ?_
          refine w_unguard 57 rfl rfl ?_
          refine w_pure (p_fieldAddrE rfl fo41_0) rfl rfl rfl ?_
          refine w_unguard 57 rfl rfl ?_
          refine w_pure (p_loadF (i := i) (j := 0) (T := tItem) (L := l) (v := .int .i64 ((l[i]).key)) rfl (rd_base (i := 4) rfl hl) (by first | assumption | omega) sh3 rfl) rfl rfl rfl ?_
          refine w_unguard 57 rfl rfl ?_
          refine w_pure (p_eq (p := ((((Greedy.access hh (l[i])).1).things)[k]).key) (q := (l[i]).key) rfl rfl) rfl rfl rfl ?_
          refine w_pure (p_pick_false (v := .bool (((((Greedy.access hh (l[i])).1).things)[k]).key == (l[i]).key)) rfl rfl) rfl rfl rfl ?_
          exact w_sub (Sub.cons rfl (Sub.skip rfl (Sub.skip rfl (Sub.skip rfl (Sub.skip rfl (Sub.skip rfl (Sub.skip rfl (Sub.skip rfl (Sub.skip rfl (Sub.skip rfl (Sub.skip rfl (Sub.skip rfl (Sub.skip rfl (Sub.skip rfl (Sub.skip rfl (Sub.refl _)))))))))))))))) hk
        · intro hb15 hk
          refine w_guard_no rfl 57 rfl rfl rfl rfl rfl ?_
          refine w_guard_no rfl 57 rfl rfl rfl rfl rfl ?_
          refine w_guard_no rfl 57 rfl rfl rfl rfl rfl ?_
          refine w_guard_no rfl 57 rfl rfl rfl rfl rfl ?_
          refine w_guard_no rfl 57 rfl rfl rfl rfl rfl ?_
          refine w_guard_no rfl 57 rfl rfl rfl rfl rfl ?_
          refine w_guard_no rfl 57 rfl rfl rfl rfl rfl ?_
          refine w_guard_no rfl 57 rfl rfl rfl rfl rfl ?_
          refine w_guard_no rfl 57 rfl rfl rfl rfl rfl ?_
          refine w_guard_no rfl 57 rfl rfl rfl rfl rfl ?_
          refine w_guard_no rfl 57 rfl rfl rfl rfl rfl ?_
          refine w_guard_no rfl 57 rfl rfl rfl rfl rfl ?_
          refine w_pure (p_pick_true (u := .bool true) rfl rfl) rfl rfl rfl ?_
          exact w_sub (Sub.cons rfl (Sub.skip rfl (Sub.skip rfl (Sub.skip rfl (Sub.skip rfl (Sub.skip rfl (Sub.skip rfl (Sub.skip rfl (Sub.skip rfl (Sub.skip rfl (Sub.skip rfl (Sub.skip rfl (Sub.skip rfl (Sub.skip rfl (Sub.skip rfl (Sub.refl _)))))))))))))))) hk
        refine w_pure (p_assign (v := .bool (there_ || (((((Greedy.access hh (l[i])).1).things)[k]).key == (l[i]).key))) rfl) rfl rfl rfl ?_
        refine w_nil ?_
        refine q_block_normal (q_then ?_)
        refine c_region ?_
        refine o_pure (p_move (v := .int .i64 (k : Int)) rfl) rfl rfl rfl ?_
        refine o_pure (p_addb (p := (k : Int)) (q := 1) rfl rfl (by omega)) rfl rfl rfl ?_
        refine o_pure (p_assign (v := .int .i64 ((k : Int) + 1)) rfl) rfl rfl rfl ?_
        refine o_nil ?_
        refine q_round hK13 ((there_ || (((((Greedy.access hh (l[i])).1).things)[k]).key == (l[i]).key)), k + 1) ?_ ?_ ?_ ?_
        · clear hK13
          exact hI.next (by omega)
        · (try dsimp only); omega
        · exact Sub.cons rfl (Sub.cons rfl (Sub.cons rfl (Sub.cons rfl (Sub.cons rfl (Sub.cons rfl (Sub.cons rfl (Sub.cons rfl (Sub.nil _))))))))
        · exact fun _ hw => HeapIs.pick hw [0, 1, 2, 3, 4] (by decide) rfl
      · simp only [decide_eq_false_iff_not, Int.not_lt] at hc14
        refine c_exit ?_
        refine q_then_exit (q_then_exit (q_block_exit (q_then ?_)))
        refine c_seq ?_
        refine c_seq ?_
        refine c_draw hmix (by kernel_rfl) ?_
        refine w_pure (p_load_agg (i := 0) (vs := [.int .i64 (((Greedy.access hh (l[i])).1).room), .int .i64 (((Greedy.access hh (l[i])).1).floor), .slice a6_5 (((Greedy.access hh (l[i])).1).things).length c6_5]) rfl rfl sh39 rfl rfl) rfl rfl rfl ?_
        refine w_call0 (v := .int .i64 (Greedy.check ((Greedy.access hh (l[i])).1))) rfl (gcheck_ok ((Greedy.access hh (l[i])).1) a6_5 c6_5) hf33 (fun w hw => (rd_ent (i := 1) rfl (fun w h => h.1)) w hw) rfl ?_
        refine w_pure (p_ne (p := (Greedy.check ((Greedy.access hh (l[i])).1))) (q := 0) rfl rfl) rfl rfl rfl ?_
        refine w_pure (p_move (v := .bool ((Greedy.check ((Greedy.access hh (l[i])).1)) != 0)) rfl) rfl rfl rfl ?_
        refine w_or (p := 80) 6 (decide (((Greedy.access hh (l[i])).1).floor < hh.floor)) ?_ ?_ ?_
        · intro hb16 hk
          simp only [bne_eq_false_iff_eq] at hb16
          refine w_unguard 74 rfl rfl ?_
          refine w_pure (p_fieldAddr (B := B6_11) (j := 0) (j' := 1) rfl fo39_1 rfl) rfl rfl rfl ?_
          refine w_unguard 74 rfl rfl ?_
          refine w_pure (p_load (i := 0) (v := .int .i64 (((Greedy.access hh (l[i])).1).floor)) rfl rfl sh3 rfl) rfl rfl rfl ?_
          refine w_unguard 74 rfl rfl ?_
          refine w_pure (p_fieldAddr (B := B1) (j := 0) (j' := 1) rfl fo39_1 rfl) rfl rfl rfl ?_
          refine w_unguard 74 rfl rfl ?_
          refine w_pure (p_load (i := 3) (v := .int .i64 hh.floor) rfl rfl sh3 rfl) rfl rfl rfl ?_
          refine w_unguard 74 rfl rfl ?_
          refine w_pure (p_lt (p := ((Greedy.access hh (l[i])).1).floor) (q := hh.floor) rfl rfl) rfl rfl rfl ?_
          refine w_pure (p_pick_false (v := .bool (decide (((Greedy.access hh (l[i])).1).floor < hh.floor))) rfl rfl) rfl rfl rfl ?_
          exact w_sub (Sub.cons rfl (Sub.skip rfl (Sub.skip rfl (Sub.skip rfl (Sub.skip rfl (Sub.skip rfl (Sub.skip rfl (Sub.skip rfl (Sub.refl _))))))))) hk
        · intro hb16 hk
          refine w_guard_no rfl 74 rfl rfl rfl rfl rfl ?_
          refine w_guard_no rfl 74 rfl rfl rfl rfl rfl ?_
          refine w_guard_no rfl 74 rfl rfl rfl rfl rfl ?_
          refine w_guard_no rfl 74 rfl rfl rfl rfl rfl ?_
          refine w_guard_no rfl 74 rfl rfl rfl rfl rfl ?_
          refine w_pure (p_pick_true (u := .bool true) rfl rfl) rfl rfl rfl ?_
          exact w_sub (Sub.cons rfl (Sub.skip rfl (Sub.skip rfl (Sub.skip rfl (Sub.skip rfl (Sub.skip rfl (Sub.skip rfl (Sub.skip rfl (Sub.refl _))))))))) hk
        refine w_pure (p_move (v := .bool (((Greedy.check ((Greedy.access hh (l[i])).1)) != 0) || decide (((Greedy.access hh (l[i])).1).floor < hh.floor))) rfl) rfl rfl rfl ?_
        refine w_or (p := 95) 14 (there_ != (((Greedy.access hh (l[i])).2.1) || decide ((l[i]).size ≤ hh.room))) ?_ ?_ ?_
        · intro hb17 hk
          simp only [Bool.or_eq_false_iff, bne_eq_false_iff_eq, decide_eq_false_iff_not, Int.not_lt] at hb17
          refine w_unguard 81 rfl rfl ?_
          refine w_pure (p_move (v := .bool there_) rfl) rfl rfl rfl ?_
          refine w_unguard 81 rfl rfl ?_
          refine w_pure (p_move (v := .bool ((Greedy.access hh (l[i])).2.1)) rfl) rfl rfl rfl ?_
          refine w_unguard 81 rfl rfl ?_
          refine w_pure (p_move (v := .bool ((Greedy.access hh (l[i])).2.1)) rfl) rfl rfl rfl ?_
          refine w_or (p := 93) 9 (decide ((l[i]).size ≤ hh.room)) ?_ ?_ ?_
          · intro hb18 hk
            skip
            refine w_unguard 84 rfl rfl ?_
            refine w_pure (p_move (v := .slice al l.length cl) rfl) rfl rfl rfl ?_
            refine w_unguard 84 rfl rfl ?_
            refine w_pure (p_move (v := .int .i64 (i : Int)) rfl) rfl rfl rfl ?_
            refine w_unguard 84 rfl rfl ?_
            refine w_pure (p_indexAddr (L := l) (T := tItem) (i := (i : Int)) rfl rfl (rd_base (i := 4) rfl hl) Try.underlying37 sz41 (by omega) (by omega)) rfl rfl rfl ?_
            refine w_unguard 84 rfl rfl ?_
            refine w_pure (p_fieldAddrE rfl fo41_1) rfl rfl rfl ?_
            refine w_unguard 84 rfl rfl ?_
            refine w_pure (p_loadF (i := i) (j := 1) (T := tItem) (L := l) (v := .int .i64 ((l[i]).size)) rfl (rd_base (i := 4) rfl hl) (by first | assumption | omega) sh3 rfl) rfl rfl rfl ?_
            refine w_unguard 84 rfl rfl ?_
            refine w_pure (p_fieldAddr (B := B1) (j := 0) (j' := 0) rfl fo39_0 rfl) rfl rfl rfl ?_
            refine w_unguard 84 rfl rfl ?_
            refine w_pure (p_load (i := 3) (v := .int .i64 hh.room) rfl rfl sh3 rfl) rfl rfl rfl ?_
            refine w_unguard 84 rfl rfl ?_
            refine w_pure (p_le (p := (l[i]).size) (q := hh.room) rfl rfl) rfl rfl rfl ?_
            refine w_unguard 81 rfl rfl ?_
            refine w_pure (p_pick_false (v := .bool (decide ((l[i]).size ≤ hh.room))) rfl rfl) rfl rfl rfl ?_
            exact w_sub (Sub.cons rfl (Sub.skip rfl (Sub.skip rfl (Sub.skip rfl (Sub.skip rfl (Sub.skip rfl (Sub.skip rfl (Sub.skip rfl (Sub.skip rfl (Sub.skip rfl (Sub.skip rfl (Sub.refl _)))))))))))) hk
          · intro hb18 hk
            refine w_guard_no rfl 84 rfl rfl rfl rfl rfl ?_
            refine w_guard_no rfl 84 rfl rfl rfl rfl rfl ?_
            refine w_guard_no rfl 84 rfl rfl rfl rfl rfl ?_
            refine w_guard_no rfl 84 rfl rfl rfl rfl rfl ?_
            refine w_guard_no rfl 84 rfl rfl rfl rfl rfl ?_
            refine w_guard_no rfl 84 rfl rfl rfl rfl rfl ?_
            refine w_guard_no rfl 84 rfl rfl rfl rfl rfl ?_
            refine w_guard_no rfl 84 rfl rfl rfl rfl rfl ?_
            refine w_unguard 81 rfl rfl ?_
            refine w_pure (p_pick_true (u := .bool true) rfl rfl) rfl rfl rfl ?_
            exact w_sub (Sub.cons rfl (Sub.skip rfl (Sub.skip rfl (Sub.skip rfl (Sub.skip rfl (Sub.skip rfl (Sub.skip rfl (Sub.skip rfl (Sub.skip rfl (Sub.skip rfl (Sub.skip rfl (Sub.refl _)))))))))))) hk
          refine w_unguard 81 rfl rfl ?_
          refine w_pure (p_neBool (b := there_) (c := (((Greedy.access hh (l[i])).2.1) || decide ((l[i]).size ≤ hh.room))) rfl rfl Try.underlying4) rfl rfl rfl ?_
          refine w_pure (p_pick_false (v := .bool (there_ != (((Greedy.access hh (l[i])).2.1) || decide ((l[i]).size ≤ hh.room)))) rfl rfl) rfl rfl rfl ?_
          exact w_sub (Sub.cons rfl (Sub.skip rfl (Sub.skip rfl (Sub.skip rfl (Sub.skip rfl (Sub.skip rfl (Sub.skip rfl (Sub.refl _)))))))) hk
        · intro hb17 hk
          refine w_guard_no rfl 81 rfl rfl rfl rfl rfl ?_
          refine w_guard_no rfl 81 rfl rfl rfl rfl rfl ?_
          refine w_guard_no rfl 81 rfl rfl rfl rfl rfl ?_
          refine w_guard_no rfl 84 rfl rfl rfl rfl rfl ?_
          refine w_guard_no rfl 84 rfl rfl rfl rfl rfl ?_
          refine w_guard_no rfl 84 rfl rfl rfl rfl rfl ?_
          refine w_guard_no rfl 84 rfl rfl rfl rfl rfl ?_
          refine w_guard_no rfl 84 rfl rfl rfl rfl rfl ?_
          refine w_guard_no rfl 84 rfl rfl rfl rfl rfl ?_
          refine w_guard_no rfl 84 rfl rfl rfl rfl rfl ?_
          refine w_guard_no rfl 84 rfl rfl rfl rfl rfl ?_
          refine w_guard_no rfl 81 rfl rfl rfl rfl rfl ?_
          refine w_guard_no rfl 81 rfl rfl rfl rfl rfl ?_
          refine w_pure (p_pick_true (u := .bool true) rfl rfl) rfl rfl rfl ?_
          exact w_sub (Sub.cons rfl (Sub.skip rfl (Sub.skip rfl (Sub.skip rfl (Sub.skip rfl (Sub.skip rfl (Sub.skip rfl (Sub.skip rfl (Sub.skip rfl (Sub.skip rfl (Sub.skip rfl (Sub.skip rfl (Sub.skip rfl (Sub.skip rfl (Sub.skip rfl (Sub.skip rfl (Sub.refl _))))))))))))))))) hk
        refine w_pure (p_move (v := .bool ((((Greedy.check ((Greedy.access hh (l[i])).1)) != 0) || decide (((Greedy.access hh (l[i])).1).floor < hh.floor)) || (there_ != (((Greedy.access hh (l[i])).2.1) || decide ((l[i]).size ≤ hh.room))))) rfl) rfl rfl rfl ?_
        refine w_or (p := 103) 7 (((Greedy.access hh (l[i])).2.1) && decide (0 < (((Greedy.access hh (l[i])).2.2).length : Int))) ?_ ?_ ?_
        · intro hb19 hk
          simp only [Bool.or_eq_false_iff, bne_eq_false_iff_eq, decide_eq_false_iff_not, Int.not_lt] at hb19
          refine w_unguard 96 rfl rfl ?_
          refine w_pure (p_move (v := .bool ((Greedy.access hh (l[i])).2.1)) rfl) rfl rfl rfl ?_
          refine w_unguard 96 rfl rfl ?_
          refine w_pure (p_move (v := .bool ((Greedy.access hh (l[i])).2.1)) rfl) rfl rfl rfl ?_
          refine w_and (p := 102) 4 (decide (0 < (((Greedy.access hh (l[i])).2.2).length : Int))) ?_ ?_ ?_
          · intro hb20 hk
            skip
            refine w_unguard 98 rfl rfl ?_
            refine w_pure (p_move (v := .slice a6_5_1 ((Greedy.access hh (l[i])).2.2).length c6_5_1) rfl) rfl rfl rfl ?_
            refine w_unguard 98 rfl rfl ?_
            refine w_pure (p_len_slice (len := ((Greedy.access hh (l[i])).2.2).length) rfl rfl Try.underlying22) rfl rfl rfl ?_
            refine w_unguard 98 rfl rfl ?_
            refine w_pure (p_gt (p := (((Greedy.access hh (l[i])).2.2).length : Int)) (q := 0) rfl rfl) rfl rfl rfl ?_
            refine w_unguard 96 rfl rfl ?_
            refine w_pure (p_pick_true (u := .bool (decide (0 < (((Greedy.access hh (l[i])).2.2).length : Int)))) rfl rfl) rfl rfl rfl ?_
            exact w_sub (Sub.cons rfl (Sub.skip rfl (Sub.skip rfl (Sub.skip rfl (Sub.skip rfl (Sub.skip rfl (Sub.refl _))))))) hk
          · intro hb20 hk
            refine w_guard_no rfl 98 rfl rfl rfl rfl rfl ?_
            refine w_guard_no rfl 98 rfl rfl rfl rfl rfl ?_
            refine w_guard_no rfl 98 rfl rfl rfl rfl rfl ?_
            refine w_unguard 96 rfl rfl ?_
            refine w_pure (p_pick_false (v := .bool false) rfl rfl) rfl rfl rfl ?_
            exact w_sub (Sub.cons rfl (Sub.skip rfl (Sub.skip rfl (Sub.skip rfl (Sub.skip rfl (Sub.skip rfl (Sub.refl _))))))) hk
          refine w_pure (p_pick_false (v := .bool (((Greedy.access hh (l[i])).2.1) && decide (0 < (((Greedy.access hh (l[i])).2.2).length : Int)))) rfl rfl) rfl rfl rfl ?_
          exact w_sub (Sub.cons rfl (Sub.skip rfl (Sub.skip rfl (Sub.skip rfl (Sub.skip rfl (Sub.refl _)))))) hk
        · intro hb19 hk
          refine w_guard_no rfl 96 rfl rfl rfl rfl rfl ?_
          refine w_guard_no rfl 96 rfl rfl rfl rfl rfl ?_
          refine w_guard_no rfl 98 rfl rfl rfl rfl rfl ?_
          refine w_guard_no rfl 98 rfl rfl rfl rfl rfl ?_
          refine w_guard_no rfl 98 rfl rfl rfl rfl rfl ?_
          refine w_guard_no rfl 96 rfl rfl rfl rfl rfl ?_
          refine w_pure (p_pick_true (u := .bool true) rfl rfl) rfl rfl rfl ?_
          exact w_sub (Sub.cons rfl (Sub.skip rfl (Sub.skip rfl (Sub.skip rfl (Sub.skip rfl (Sub.skip rfl (Sub.skip rfl (Sub.skip rfl (Sub.skip rfl (Sub.refl _)))))))))) hk
        refine w_nil ?_
        refine q_then ?_
        refine c_cond (b := (((((Greedy.check ((Greedy.access hh (l[i])).1)) != 0) || decide (((Greedy.access hh (l[i])).1).floor < hh.floor)) || (there_ != (((Greedy.access hh (l[i])).2.1) || decide ((l[i]).size ≤ hh.room)))) || (((Greedy.access hh (l[i])).2.1) && decide (0 < (((Greedy.access hh (l[i])).2.2).length : Int))))) rfl (fun hc21 => ?_) (fun hc21 => ?_)
        · simp only [Bool.or_eq_true, bne_iff_ne, ne_eq, decide_eq_true_eq, Bool.and_eq_true] at hc21
          exfalso
          have hf := Greedy.fits_no (by assumption) hI (by omega)
          rcases hc21 with ((hc21 | hc21) | hc21) | hc21
          · exact hc21 hf.1
          · have := hf.2.1; omega
          · exact hc21 hf.2.2.1
          · have := hf.2.2.2 hc21.1; omega
        · simp only [Bool.or_eq_false_iff, bne_eq_false_iff_eq, decide_eq_false_iff_not, Int.not_lt, Bool.and_eq_false_iff] at hc21
          refine c_skip ?_
          refine q_then ?_
          refine c_region ?_
          refine o_pure (p_load_agg (i := 0) (vs := [.int .i64 (((Greedy.access hh (l[i])).1).room), .int .i64 (((Greedy.access hh (l[i])).1).floor), .slice a6_5 (((Greedy.access hh (l[i])).1).things).length c6_5]) rfl rfl sh39 rfl rfl) rfl rfl rfl ?_
          refine o_storeN (i := 3) (vs := [.int .i64 (((Greedy.access hh (l[i])).1).room), .int .i64 (((Greedy.access hh (l[i])).1).floor), .slice a6_5 (((Greedy.access hh (l[i])).1).things).length c6_5]) (cs' := [.int .i64 (((Greedy.access hh (l[i])).1).room), .int .i64 (((Greedy.access hh (l[i])).1).floor), .slice a6_5 (((Greedy.access hh (l[i])).1).things).length c6_5]) rfl rfl rfl sz39 rfl rfl rfl rfl ?_
          refine o_nil ?_
          refine q_block_normal (q_then ?_)
          refine c_region ?_
          refine o_pure (p_move (v := .int .i64 (i : Int)) rfl) rfl rfl rfl ?_
          refine o_pure (p_addb (p := (i : Int)) (q := 1) rfl rfl (by omega)) rfl rfl rfl ?_
          refine o_pure (p_assign (v := .int .i64 ((i : Int) + 1)) rfl) rfl rfl rfl ?_
          refine o_nil ?_
          refine q_heap (H' := [box B6_11 [.int .i64 (((Greedy.access hh (l[i])).1).room), .int .i64 (((Greedy.access hh (l[i])).1).floor), .slice a6_5 (((Greedy.access hh (l[i])).1).things).length c6_5] 39, loose tItem (a6_5 = ah_0 ∧ c6_5 = ch_0 ∧ (((Greedy.access hh (l[i])).1).things) = h.things) S6_5 a6_5 c6_5 (((Greedy.access hh (l[i])).1).things), loose tItem (ahh_0 = ah_0 ∧ chh_0 = ch_0 ∧ hh.things = h.things) Shh_0 ahh_0 chh_0 hh.things, box B1 [.int .i64 (((Greedy.access hh (l[i])).1).room), .int .i64 (((Greedy.access hh (l[i])).1).floor), .slice a6_5 (((Greedy.access hh (l[i])).1).things).length c6_5] 39, base w0]) (fun w hw => HeapIs.entLoose (i := 1) (T := tItem) rfl (fun w h => h.1) hw) ?_
          refine q_round hK3 (i + 1, ((Greedy.access hh (l[i])).1), a6_5, c6_5, S6_5) ?_ ?_ ?_ ?_
          · clear hK3
            omega
          · (try dsimp only); omega
          · exact Sub.cons rfl (Sub.cons rfl (Sub.cons rfl (Sub.nil _)))
          · exact fun _ hw => HeapIs.pick hw [1, 3, 4] (by decide) rfl
  · simp only [Bool.and_eq_false_iff, decide_eq_false_iff_not, Int.not_lt] at hc5
    refine c_exit ?_
    refine q_then_exit (q_then_exit (q_block_exit (q_then ?_)))
    refine c_seq ?_
    refine c_region ?_
    refine o_pure (p_assign (v := .bool true) rfl) rfl rfl rfl ?_
    refine o_nil ?_
    refine q_then ?_
    refine c_ret ?_
    refine q_end0 (v := .bool true) (rt1 rfl (r_tmp rfl)) (i := 2) rfl ?_
    exact rfl
end Go.Proofs.Ythbfdhphnofacab
