/- The walks, printed by a program from the translation and a specification. -/
import Derived.Test.YthbfdhphnofacabTfF
import Derived.Test.YthbfdhphnofacabTfLaw
import Derived.Test.YthbfdhphnofacabTfW6
import Derived.Test.YthbfdhphnofacabTfW7
namespace Go.Proofs.Ythbfdhphnofacab
open Go.Sx Go.RowKit
set_option maxHeartbeats 8000000 in
set_option maxRecDepth 100000 in
theorem topFifo_ok (room : Int) (l : List Int) (al : Option Addr) (cl : Nat) : Fn0 Try.prog 14 [.int .i64 room, .slice al l.length cl] (fun w => Rd tInt w al cl l) (.bool true) := by
  refine fn0 (nt := 82) (F0 := [(0, .int .i64 room), (1, .slice al l.length cl)]) Try.func14 rfl Try.ntmps14 rfl rfl (fun w0 hpre => ?_)
  have hl := hpre
  have hlhl := hl.2.1
  refine c_seq ?_
  refine c_region ?_
  refine o_pure (p_assign (v := .bool false) rfl) rfl rfl rfl ?_
  refine o_nil ?_
  refine q_then ?_
  refine c_seq ?_
  refine c_seq ?_
  refine c_region ?_
  refine o_call0 (v := .bool true) rfl (tbegun_ok ) hf59 (fun _ _ => trivial) rfl ?_
  refine o_pure (p_not (b := true) rfl) rfl rfl rfl ?_
  refine o_nil ?_
  refine q_then ?_
  refine c_false rfl ?_
  refine c_skip ?_
  refine q_then ?_
  refine c_seq ?_
  refine c_region ?_
  refine o_pure (p_move (v := .int .i64 room) rfl) rfl rfl rfl ?_
  refine o_pure (p_build (cells := [.int .i64 room, .int .i64 0, .slice none 0 0]) fp59 ze59 rfl rfl) rfl rfl rfl ?_
  refine o_alloc ze59 rfl (fun B1 => ?_)
  refine o_storeN (i := 0) (vs := [.int .i64 room, .int .i64 0, .slice none 0 0]) (cs' := [.int .i64 room, .int .i64 0, .slice none 0 0]) rfl rfl rfl sz59 rfl rfl rfl rfl ?_
  refine o_nil ?_
  refine q_then ?_
  refine c_seq ?_
  refine c_region ?_
  refine o_pure (p_move (v := .int .i64 room) rfl) rfl rfl rfl ?_
  refine o_pure (p_build (cells := [.int .i64 room, .slice none 0 0]) fp95 ze95 rfl rfl) rfl rfl rfl ?_
  refine o_alloc ze95 rfl (fun B2 => ?_)
  refine o_storeN (i := 0) (vs := [.int .i64 room, .slice none 0 0]) (cs' := [.int .i64 room, .slice none 0 0]) rfl rfl rfl sz95 rfl rfl rfl rfl ?_
  refine o_nil ?_
  refine q_then ?_
  refine c_seq ?_
  refine c_seq ?_
  refine c_region ?_
  refine o_pure (p_assign (v := .int .i64 0) rfl) rfl rfl rfl ?_
  refine o_nil ?_
  refine q_then ?_
  refine c_block ?_
  refine c_heap (H' := [loose tFrame (False) (fun _ => False) none 0 ([]), box B2 [.int .i64 room, .slice none 0 0] 95, box B1 [.int .i64 room, .int .i64 0, .slice none 0 0] 59, base w0]) (fun w hw => HeapIs.looseNil tFrame hw) ?_
  refine c_heap (H' := [loose tInt (False) (fun _ => False) none 0 ([]), loose tFrame (False) (fun _ => False) none 0 ([]), box B2 [.int .i64 room, .slice none 0 0] 95, box B1 [.int .i64 room, .int .i64 0, .slice none 0 0] 59, base w0]) (fun w hw => HeapIs.looseNil tInt hw) ?_
  refine c_loop (St := Nat × DClock × Option Addr × Nat × (Nat → Prop) × DCache × Option Addr × Nat × (Nat → Prop))
    (fun ⟨i, cc, acc_0, ccc_0, Scc_0, dd, add_0, cdd_0, Sdd_0⟩ => [(1, .slice al l.length cl), (5, .pointer (some ⟨B1, 0, none⟩)), (6, .pointer (some ⟨B2, 0, none⟩)), (7, .int .i64 (i : Int))])
    (fun ⟨i, cc, acc_0, ccc_0, Scc_0, dd, add_0, cdd_0, Sdd_0⟩ => [loose tInt (False) Sdd_0 add_0 cdd_0 dd.keys, loose tFrame (False) Scc_0 acc_0 ccc_0 cc.frames, box B2 [.int .i64 dd.room, .slice add_0 dd.keys.length cdd_0] 95, box B1 [.int .i64 cc.room, .int .i64 cc.hand, .slice acc_0 cc.frames.length ccc_0] 59, base w0])
    (fun ⟨i, cc, acc_0, ccc_0, Scc_0, dd, add_0, cdd_0, Sdd_0⟩ => i ≤ l.length ∧ Fifo.FInv room (l.take i) cc dd)
    (fun ⟨i, cc, acc_0, ccc_0, Scc_0, dd, add_0, cdd_0, Sdd_0⟩ => l.length - i)
    (0, (⟨room, 0, []⟩ : DClock), none, 0, (fun _ => False), (⟨room, []⟩ : DCache), none, 0, (fun _ => False)) ?_ (Sub.cons rfl (Sub.cons rfl (Sub.cons rfl (Sub.cons rfl (Sub.nil _))))) (fun _ hw => hw) ?_
  · exact ⟨Nat.zero_le _, Fifo.FInv.start room⟩
  rintro ⟨i, cc, acc_0, ccc_0, Scc_0, dd, add_0, cdd_0, Sdd_0⟩ hI K hK5
  show SC _ _ Try.prog 82 w0 _ _ [(1, .slice al l.length cl), (5, .pointer (some ⟨B1, 0, none⟩)), (6, .pointer (some ⟨B2, 0, none⟩)), (7, .int .i64 (i : Int))] [loose tInt (False) Sdd_0 add_0 cdd_0 dd.keys, loose tFrame (False) Scc_0 acc_0 ccc_0 cc.frames, box B2 [.int .i64 dd.room, .slice add_0 dd.keys.length cdd_0] 95, box B1 [.int .i64 cc.room, .int .i64 cc.hand, .slice acc_0 cc.frames.length ccc_0] 59, base w0]
  refine c_seq ?_
  refine c_seq ?_
  refine c_region ?_
  refine o_pure (p_move (v := .int .i64 (i : Int)) rfl) rfl rfl rfl ?_
  refine o_pure (p_move (v := .slice al l.length cl) rfl) rfl rfl rfl ?_
  refine o_pure (p_len_slice (len := l.length) rfl rfl Try.underlying22) rfl rfl rfl ?_
  refine o_pure (p_lt (p := (i : Int)) (q := (l.length : Int)) rfl rfl) rfl rfl rfl ?_
  refine o_pure (p_move (v := .bool (decide ((i : Int) < (l.length : Int)))) rfl) rfl rfl rfl ?_
  refine o_and (p := 29) 3 (decide ((i : Int) < 60)) ?_ ?_ ?_
  · intro hb6 hk
    simp only [decide_eq_true_eq] at hb6
    refine o_unguard 26 rfl rfl ?_
    refine o_pure (p_move (v := .int .i64 (i : Int)) rfl) rfl rfl rfl ?_
    refine o_unguard 26 rfl rfl ?_
    refine o_pure (p_lt (p := (i : Int)) (q := 60) rfl rfl) rfl rfl rfl ?_
    refine o_pure (p_pick_true (u := .bool (decide ((i : Int) < 60))) rfl rfl) rfl rfl rfl ?_
    exact o_sub (Sub.cons rfl (Sub.skip rfl (Sub.skip rfl (Sub.skip rfl (Sub.skip rfl (Sub.refl _)))))) hk
  · intro hb6 hk
    refine o_guard_no rfl 26 rfl rfl rfl rfl rfl ?_
    refine o_guard_no rfl 26 rfl rfl rfl rfl rfl ?_
    refine o_pure (p_pick_false (v := .bool false) rfl rfl) rfl rfl rfl ?_
    exact o_sub (Sub.cons rfl (Sub.skip rfl (Sub.skip rfl (Sub.skip rfl (Sub.skip rfl (Sub.refl _)))))) hk
  refine o_nil ?_
  refine q_then ?_
  refine c_cond (b := (decide ((i : Int) < (l.length : Int)) && decide ((i : Int) < 60))) rfl (fun hc7 => ?_) (fun hc7 => ?_)
  · simp only [Bool.and_eq_true, decide_eq_true_eq] at hc7
    refine c_skip ?_
    refine q_then ?_
    refine c_seq ?_
    refine c_block ?_
    refine c_seq ?_
    refine c_seq ?_
    refine c_draw hmix (by kernel_rfl) ?_
    refine w_pure (p_move (v := .slice al l.length cl) rfl) rfl rfl rfl ?_
    refine w_pure (p_move (v := .int .i64 (i : Int)) rfl) rfl rfl rfl ?_
    refine w_pure (p_sliceH (L := l) (T := tInt) (h := (i : Int)) rfl rfl Try.underlying22 sz3 (by omega) (by omega) (rd_base (i := 4) rfl hl)) rfl rfl rfl ?_
    refine w_pure (p_move (v := .slice al l.length cl) rfl) rfl rfl rfl ?_
    refine w_pure (p_move (v := .int .i64 (i : Int)) rfl) rfl rfl rfl ?_
    refine w_pure (p_indexAddr (L := l) (T := tInt) (i := (i : Int)) rfl rfl (rd_base (i := 4) rfl hl) Try.underlying22 sz3 (by omega) (by omega)) rfl rfl rfl ?_
    refine w_pure (p_loadE1 (i := i) (T := tInt) (L := l) (v := .int .i64 (l[i])) rfl (rd_base (i := 4) rfl hl) (by first | assumption | omega) sh3 rfl) rfl rfl rfl ?_
    refine w_call0 (v := .bool (Ref.hasInt (l.take i) (l[i]))) rfl (thas_ok (l.take i) al cl (l[i])) hf60 (fun w hw => (rd_takeC (hi := i) (rd_base (i := 4) rfl hl) (by omega)) w hw) rfl ?_
    refine w_nil ?_
    refine q_then ?_
    refine c_cond (b := (Ref.hasInt (l.take i) (l[i]))) rfl (fun hc8 => ?_) (fun hc8 => ?_)
    · skip
      refine c_seq ?_
      refine c_region ?_
      refine o_pure (p_assign (v := .bool true) rfl) rfl rfl rfl ?_
      refine o_nil ?_
      refine q_then ?_
      refine c_ret ?_
      refine q_then_ret (q_block_ret (q_then_ret (q_then_ret (q_block_ret (q_then_ret ?_)))))
      refine q_end0 (v := .bool true) (rt1 rfl (r_tmp rfl)) (i := 4) rfl ?_
      exact rfl
    · skip
      refine c_skip ?_
      refine q_then ?_
      refine c_seq ?_
      refine c_cut (G := (Nat → Prop) × Option Addr × Nat × Nat) (fun ⟨S9_5, a9_5, c9_5, B9_11⟩ => [(1, .slice al l.length cl), (5, .pointer (some ⟨B1, 0, none⟩)), (6, .pointer (some ⟨B2, 0, none⟩)), (7, .int .i64 (i : Int)), (8, .pointer (some ⟨B9_11, 0, none⟩)), (9, .bool ((Clock.access cc (l[i])).2.1)), (10, .int .i64 ((Clock.access cc (l[i])).2.2)), (11, .int .i64 (Clock.accessErr cc (l[i])))]) (fun ⟨S9_5, a9_5, c9_5, B9_11⟩ => [box B9_11 [.int .i64 (((Clock.access cc (l[i])).1).room), .int .i64 (((Clock.access cc (l[i])).1).hand), .slice a9_5 (((Clock.access cc (l[i])).1).frames).length c9_5] 59, own tFrame S9_5 a9_5 c9_5 (((Clock.access cc (l[i])).1).frames), loose tInt (False) Sdd_0 add_0 cdd_0 dd.keys, loose tFrame (False) Scc_0 acc_0 ccc_0 cc.frames, box B2 [.int .i64 dd.room, .slice add_0 dd.keys.length cdd_0] 95, box B1 [.int .i64 cc.room, .int .i64 cc.hand, .slice acc_0 cc.frames.length ccc_0] 59, base w0]) (fun K hK10 => ?_) ?_
      · refine c_held hmix [loose tInt (False) Sdd_0 add_0 cdd_0 dd.keys, loose tFrame (False) Scc_0 acc_0 ccc_0 cc.frames, box B2 [.int .i64 dd.room, .slice add_0 dd.keys.length cdd_0] 95, box B1 [.int .i64 cc.room, .int .i64 cc.hand, .slice acc_0 cc.frames.length ccc_0] 59, base w0] rfl rfl ?_
        refine h_take (i := 0) (ls := #[true, false, false, false, false, false, false, false, false, false, false, false, false, false, false, false]) rfl (by kernel_rfl) (by kernel_rfl) (by kernel_rfl) (fun _ _ _ h => h) (p_load_agg (i := 3) (vs := [.int .i64 cc.room, .int .i64 cc.hand, .slice acc_0 cc.frames.length ccc_0]) rfl rfl sh59 rfl rfl) rfl rfl rfl (fun _ hw => HeapIs.drop hw (List.Sublist.refl _)) rfl ?_
        refine h_take (i := 1) (ls := #[true, true, false, false, false, false, false, false, false, false, false, false, false, false, false, false]) rfl (by kernel_rfl) (by kernel_rfl) (by kernel_rfl) (fun _ _ _ h => h) (p_move (v := .slice al l.length cl) rfl) rfl rfl rfl (fun _ hw => HeapIs.drop hw (List.Sublist.refl _)) rfl ?_
        refine h_take (i := 2) (ls := #[true, true, true, false, false, false, false, false, false, false, false, false, false, false, false, false]) rfl (by kernel_rfl) (by kernel_rfl) (by kernel_rfl) (fun _ _ _ h => h) (p_move (v := .int .i64 (i : Int)) rfl) rfl rfl rfl (fun _ hw => HeapIs.drop hw (List.Sublist.refl _)) rfl ?_
        refine h_take (i := 3) (ls := #[true, true, true, true, false, false, false, false, false, false, false, false, false, false, false, false]) rfl (by kernel_rfl) (by kernel_rfl) (by kernel_rfl) (fun _ _ _ h => h) (p_indexAddr (L := l) (T := tInt) (i := (i : Int)) rfl rfl (rd_base (i := 4) rfl hl) Try.underlying22 sz3 (by omega) (by omega)) rfl rfl rfl (fun _ hw => HeapIs.drop hw (List.Sublist.refl _)) rfl ?_
        refine h_take (i := 4) (ls := #[true, true, true, true, true, false, false, false, false, false, false, false, false, false, false, false]) rfl (by kernel_rfl) (by kernel_rfl) (by kernel_rfl) (fun _ _ _ h => h) (p_loadE1 (i := i) (T := tInt) (L := l) (v := .int .i64 (l[i])) rfl (rd_base (i := 4) rfl hl) (by first | assumption | omega) sh3 rfl) rfl rfl rfl (fun _ hw => HeapIs.drop hw (List.Sublist.refl _)) rfl ?_
        refine h_two (i := 5) (j := 11) (ls := #[true, true, true, true, true, true, false, false, false, false, false, false, false, false, false, false]) (ls' := #[true, true, true, true, true, false, false, false, false, false, false, true, false, false, false, false]) (by kernel_rfl) rfl rfl rfl rfl ?_ ?_
        · refine o_callM rfl (access_ok cc acc_0 ccc_0 (l[i])) hf37 (fun w hw => (rd_loose (i := 1) rfl (fun hφ => hφ.elim)) w hw) rfl (fun _ _ _ _ ha hA => SlO.agree ha hA) ?_
          rintro ⟨a9_5, c9_5⟩ S9_5
          refine o_know (fun w hw => own_len (i := 0) (T := tFrame) hw rfl) (fun hlr9_5 => ?_)
          refine o_nil ?_
          refine h_next (fun _ hw => HeapIs.drop hw (List.Sublist.cons _ (List.Sublist.cons_cons _ (List.Sublist.cons_cons _ (List.Sublist.cons_cons _ (List.Sublist.cons_cons _ (List.Sublist.cons_cons _ (List.Sublist.slnil)))))))) ?_
          refine h_take (i := 6) (ls := #[true, true, true, true, true, true, true, false, false, false, false, false, false, false, false, false]) rfl (by kernel_rfl) (by kernel_rfl) (by kernel_rfl) (fun _ _ _ h => h) (p_move (v := .tuple #[.agg #[.int .i64 (((Clock.access cc (l[i])).1).room), .int .i64 (((Clock.access cc (l[i])).1).hand), .slice a9_5 (((Clock.access cc (l[i])).1).frames).length c9_5], .bool ((Clock.access cc (l[i])).2.1), .int .i64 ((Clock.access cc (l[i])).2.2), .int .i64 (Clock.accessErr cc (l[i]))]) rfl) rfl rfl rfl (fun _ hw => HeapIs.drop hw (List.Sublist.cons _ (List.Sublist.cons_cons _ (List.Sublist.cons_cons _ (List.Sublist.cons_cons _ (List.Sublist.cons_cons _ (List.Sublist.cons_cons _ (List.Sublist.slnil)))))))) rfl ?_
          refine h_take (i := 7) (ls := #[true, true, true, true, true, true, true, true, false, false, false, false, false, false, false, false]) rfl (by kernel_rfl) (by kernel_rfl) (by kernel_rfl) (fun _ _ _ h => h) (p_extract (vs := [.agg #[.int .i64 (((Clock.access cc (l[i])).1).room), .int .i64 (((Clock.access cc (l[i])).1).hand), .slice a9_5 (((Clock.access cc (l[i])).1).frames).length c9_5], .bool ((Clock.access cc (l[i])).2.1), .int .i64 ((Clock.access cc (l[i])).2.2), .int .i64 (Clock.accessErr cc (l[i]))]) (v := .agg #[.int .i64 (((Clock.access cc (l[i])).1).room), .int .i64 (((Clock.access cc (l[i])).1).hand), .slice a9_5 (((Clock.access cc (l[i])).1).frames).length c9_5]) rfl rfl) rfl rfl rfl (fun _ hw => HeapIs.drop hw (List.Sublist.cons _ (List.Sublist.cons_cons _ (List.Sublist.cons_cons _ (List.Sublist.cons_cons _ (List.Sublist.cons_cons _ (List.Sublist.cons_cons _ (List.Sublist.slnil)))))))) rfl ?_
          refine h_take (i := 8) (ls := #[true, true, true, true, true, true, true, true, true, false, false, false, false, false, false, false]) rfl (by kernel_rfl) (by kernel_rfl) (by kernel_rfl) (fun _ _ _ h => h) (p_extract (vs := [.agg #[.int .i64 (((Clock.access cc (l[i])).1).room), .int .i64 (((Clock.access cc (l[i])).1).hand), .slice a9_5 (((Clock.access cc (l[i])).1).frames).length c9_5], .bool ((Clock.access cc (l[i])).2.1), .int .i64 ((Clock.access cc (l[i])).2.2), .int .i64 (Clock.accessErr cc (l[i]))]) (v := .bool ((Clock.access cc (l[i])).2.1)) rfl rfl) rfl rfl rfl (fun _ hw => HeapIs.drop hw (List.Sublist.cons _ (List.Sublist.cons_cons _ (List.Sublist.cons_cons _ (List.Sublist.cons_cons _ (List.Sublist.cons_cons _ (List.Sublist.cons_cons _ (List.Sublist.slnil)))))))) rfl ?_
          refine h_take (i := 9) (ls := #[true, true, true, true, true, true, true, true, true, true, false, false, false, false, false, false]) rfl (by kernel_rfl) (by kernel_rfl) (by kernel_rfl) (fun _ _ _ h => h) (p_extract (vs := [.agg #[.int .i64 (((Clock.access cc (l[i])).1).room), .int .i64 (((Clock.access cc (l[i])).1).hand), .slice a9_5 (((Clock.access cc (l[i])).1).frames).length c9_5], .bool ((Clock.access cc (l[i])).2.1), .int .i64 ((Clock.access cc (l[i])).2.2), .int .i64 (Clock.accessErr cc (l[i]))]) (v := .int .i64 ((Clock.access cc (l[i])).2.2)) rfl rfl) rfl rfl rfl (fun _ hw => HeapIs.drop hw (List.Sublist.cons _ (List.Sublist.cons_cons _ (List.Sublist.cons_cons _ (List.Sublist.cons_cons _ (List.Sublist.cons_cons _ (List.Sublist.cons_cons _ (List.Sublist.slnil)))))))) rfl ?_
          refine h_take (i := 10) (ls := #[true, true, true, true, true, true, true, true, true, true, true, false, false, false, false, false]) rfl (by kernel_rfl) (by kernel_rfl) (by kernel_rfl) (fun _ _ _ h => h) (p_extract (vs := [.agg #[.int .i64 (((Clock.access cc (l[i])).1).room), .int .i64 (((Clock.access cc (l[i])).1).hand), .slice a9_5 (((Clock.access cc (l[i])).1).frames).length c9_5], .bool ((Clock.access cc (l[i])).2.1), .int .i64 ((Clock.access cc (l[i])).2.2), .int .i64 (Clock.accessErr cc (l[i]))]) (v := .int .i64 (Clock.accessErr cc (l[i]))) rfl rfl) rfl rfl rfl (fun _ hw => HeapIs.drop hw (List.Sublist.cons _ (List.Sublist.cons_cons _ (List.Sublist.cons_cons _ (List.Sublist.cons_cons _ (List.Sublist.cons_cons _ (List.Sublist.cons_cons _ (List.Sublist.slnil)))))))) rfl ?_
          refine h_one (i := 11) (ls := #[true, true, true, true, true, true, true, true, true, true, true, true, false, false, false, false]) (by kernel_rfl) rfl rfl ?_
          refine o_alloc ze59 rfl (fun B9_11 => ?_)
          refine o_nil ?_
          refine h_next (fun _ hw => HeapIs.drop hw (List.Sublist.cons _ (List.Sublist.cons _ (List.Sublist.cons_cons _ (List.Sublist.cons_cons _ (List.Sublist.cons_cons _ (List.Sublist.cons_cons _ (List.Sublist.cons_cons _ (List.Sublist.slnil))))))))) ?_
          refine h_one (i := 12) (ls := #[true, true, true, true, true, true, true, true, true, true, true, true, true, false, false, false]) (by kernel_rfl) rfl rfl ?_
          refine o_storeN (i := 0) (vs := [.int .i64 (((Clock.access cc (l[i])).1).room), .int .i64 (((Clock.access cc (l[i])).1).hand), .slice a9_5 (((Clock.access cc (l[i])).1).frames).length c9_5]) (cs' := [.int .i64 (((Clock.access cc (l[i])).1).room), .int .i64 (((Clock.access cc (l[i])).1).hand), .slice a9_5 (((Clock.access cc (l[i])).1).frames).length c9_5]) rfl rfl rfl sz59 rfl rfl rfl rfl ?_
          refine o_nil ?_
          refine h_next (fun _ hw => HeapIs.drop hw (List.Sublist.cons _ (List.Sublist.cons _ (List.Sublist.cons_cons _ (List.Sublist.cons_cons _ (List.Sublist.cons_cons _ (List.Sublist.cons_cons _ (List.Sublist.cons_cons _ (List.Sublist.slnil))))))))) ?_
          refine h_take (i := 13) (ls := #[true, true, true, true, true, true, true, true, true, true, true, true, true, true, false, false]) rfl (by kernel_rfl) (by kernel_rfl) (by kernel_rfl) (fun _ _ _ h => h) (p_assign (v := .bool ((Clock.access cc (l[i])).2.1)) rfl) rfl rfl rfl (fun _ hw => HeapIs.drop hw (List.Sublist.cons _ (List.Sublist.cons _ (List.Sublist.cons_cons _ (List.Sublist.cons_cons _ (List.Sublist.cons_cons _ (List.Sublist.cons_cons _ (List.Sublist.cons_cons _ (List.Sublist.slnil))))))))) rfl ?_
          refine h_take (i := 14) (ls := #[true, true, true, true, true, true, true, true, true, true, true, true, true, true, true, false]) rfl (by kernel_rfl) (by kernel_rfl) (by kernel_rfl) (fun _ _ _ h => h) (p_assign (v := .int .i64 ((Clock.access cc (l[i])).2.2)) rfl) rfl rfl rfl (fun _ hw => HeapIs.drop hw (List.Sublist.cons _ (List.Sublist.cons _ (List.Sublist.cons_cons _ (List.Sublist.cons_cons _ (List.Sublist.cons_cons _ (List.Sublist.cons_cons _ (List.Sublist.cons_cons _ (List.Sublist.slnil))))))))) rfl ?_
          refine h_take (i := 15) (ls := #[true, true, true, true, true, true, true, true, true, true, true, true, true, true, true, true]) rfl (by kernel_rfl) (by kernel_rfl) (by kernel_rfl) (fun _ _ _ h => h) (p_assign (v := .int .i64 (Clock.accessErr cc (l[i]))) rfl) rfl rfl rfl (fun _ hw => HeapIs.drop hw (List.Sublist.cons _ (List.Sublist.cons _ (List.Sublist.cons_cons _ (List.Sublist.cons_cons _ (List.Sublist.cons_cons _ (List.Sublist.cons_cons _ (List.Sublist.cons_cons _ (List.Sublist.slnil))))))))) rfl ?_
          refine h_done (by kernel_rfl) ?_
          refine q_kont hK10 (S9_5, a9_5, c9_5, B9_11) (Sub.cons rfl (Sub.cons rfl (Sub.cons rfl (Sub.cons rfl (Sub.cons rfl (Sub.cons rfl (Sub.cons rfl (Sub.cons rfl (Sub.nil _))))))))) (fun _ hw => HeapIs.pick hw [0, 1, 2, 3, 4, 5, 6] (by decide) rfl)
        · refine o_alloc ze59 rfl (fun B9_11 => ?_)
          refine o_nil ?_
          refine h_next (fun _ hw => HeapIs.drop hw (List.Sublist.cons _ (List.Sublist.cons_cons _ (List.Sublist.cons_cons _ (List.Sublist.cons_cons _ (List.Sublist.cons_cons _ (List.Sublist.cons_cons _ (List.Sublist.slnil)))))))) ?_
          refine h_one (i := 5) (ls := #[true, true, true, true, true, true, false, false, false, false, false, true, false, false, false, false]) (by kernel_rfl) rfl rfl ?_
          refine o_callM rfl (access_ok cc acc_0 ccc_0 (l[i])) hf37 (fun w hw => (rd_loose (i := 2) rfl (fun hφ => hφ.elim)) w hw) rfl (fun _ _ _ _ ha hA => SlO.agree ha hA) ?_
          rintro ⟨a9_5, c9_5⟩ S9_5
          refine o_know (fun w hw => own_len (i := 0) (T := tFrame) hw rfl) (fun hlr9_5 => ?_)
          refine o_nil ?_
          refine h_next (fun _ hw => HeapIs.drop hw (List.Sublist.cons _ (List.Sublist.cons _ (List.Sublist.cons_cons _ (List.Sublist.cons_cons _ (List.Sublist.cons_cons _ (List.Sublist.cons_cons _ (List.Sublist.cons_cons _ (List.Sublist.slnil))))))))) ?_
          refine h_take (i := 6) (ls := #[true, true, true, true, true, true, true, false, false, false, false, true, false, false, false, false]) rfl (by kernel_rfl) (by kernel_rfl) (by kernel_rfl) (fun _ _ _ h => h) (p_move (v := .tuple #[.agg #[.int .i64 (((Clock.access cc (l[i])).1).room), .int .i64 (((Clock.access cc (l[i])).1).hand), .slice a9_5 (((Clock.access cc (l[i])).1).frames).length c9_5], .bool ((Clock.access cc (l[i])).2.1), .int .i64 ((Clock.access cc (l[i])).2.2), .int .i64 (Clock.accessErr cc (l[i]))]) rfl) rfl rfl rfl (fun _ hw => HeapIs.drop hw (List.Sublist.cons _ (List.Sublist.cons _ (List.Sublist.cons_cons _ (List.Sublist.cons_cons _ (List.Sublist.cons_cons _ (List.Sublist.cons_cons _ (List.Sublist.cons_cons _ (List.Sublist.slnil))))))))) rfl ?_
          refine h_take (i := 7) (ls := #[true, true, true, true, true, true, true, true, false, false, false, true, false, false, false, false]) rfl (by kernel_rfl) (by kernel_rfl) (by kernel_rfl) (fun _ _ _ h => h) (p_extract (vs := [.agg #[.int .i64 (((Clock.access cc (l[i])).1).room), .int .i64 (((Clock.access cc (l[i])).1).hand), .slice a9_5 (((Clock.access cc (l[i])).1).frames).length c9_5], .bool ((Clock.access cc (l[i])).2.1), .int .i64 ((Clock.access cc (l[i])).2.2), .int .i64 (Clock.accessErr cc (l[i]))]) (v := .agg #[.int .i64 (((Clock.access cc (l[i])).1).room), .int .i64 (((Clock.access cc (l[i])).1).hand), .slice a9_5 (((Clock.access cc (l[i])).1).frames).length c9_5]) rfl rfl) rfl rfl rfl (fun _ hw => HeapIs.drop hw (List.Sublist.cons _ (List.Sublist.cons _ (List.Sublist.cons_cons _ (List.Sublist.cons_cons _ (List.Sublist.cons_cons _ (List.Sublist.cons_cons _ (List.Sublist.cons_cons _ (List.Sublist.slnil))))))))) rfl ?_
          refine h_take (i := 8) (ls := #[true, true, true, true, true, true, true, true, true, false, false, true, false, false, false, false]) rfl (by kernel_rfl) (by kernel_rfl) (by kernel_rfl) (fun _ _ _ h => h) (p_extract (vs := [.agg #[.int .i64 (((Clock.access cc (l[i])).1).room), .int .i64 (((Clock.access cc (l[i])).1).hand), .slice a9_5 (((Clock.access cc (l[i])).1).frames).length c9_5], .bool ((Clock.access cc (l[i])).2.1), .int .i64 ((Clock.access cc (l[i])).2.2), .int .i64 (Clock.accessErr cc (l[i]))]) (v := .bool ((Clock.access cc (l[i])).2.1)) rfl rfl) rfl rfl rfl (fun _ hw => HeapIs.drop hw (List.Sublist.cons _ (List.Sublist.cons _ (List.Sublist.cons_cons _ (List.Sublist.cons_cons _ (List.Sublist.cons_cons _ (List.Sublist.cons_cons _ (List.Sublist.cons_cons _ (List.Sublist.slnil))))))))) rfl ?_
          refine h_take (i := 9) (ls := #[true, true, true, true, true, true, true, true, true, true, false, true, false, false, false, false]) rfl (by kernel_rfl) (by kernel_rfl) (by kernel_rfl) (fun _ _ _ h => h) (p_extract (vs := [.agg #[.int .i64 (((Clock.access cc (l[i])).1).room), .int .i64 (((Clock.access cc (l[i])).1).hand), .slice a9_5 (((Clock.access cc (l[i])).1).frames).length c9_5], .bool ((Clock.access cc (l[i])).2.1), .int .i64 ((Clock.access cc (l[i])).2.2), .int .i64 (Clock.accessErr cc (l[i]))]) (v := .int .i64 ((Clock.access cc (l[i])).2.2)) rfl rfl) rfl rfl rfl (fun _ hw => HeapIs.drop hw (List.Sublist.cons _ (List.Sublist.cons _ (List.Sublist.cons_cons _ (List.Sublist.cons_cons _ (List.Sublist.cons_cons _ (List.Sublist.cons_cons _ (List.Sublist.cons_cons _ (List.Sublist.slnil))))))))) rfl ?_
          refine h_take (i := 10) (ls := #[true, true, true, true, true, true, true, true, true, true, true, true, false, false, false, false]) rfl (by kernel_rfl) (by kernel_rfl) (by kernel_rfl) (fun _ _ _ h => h) (p_extract (vs := [.agg #[.int .i64 (((Clock.access cc (l[i])).1).room), .int .i64 (((Clock.access cc (l[i])).1).hand), .slice a9_5 (((Clock.access cc (l[i])).1).frames).length c9_5], .bool ((Clock.access cc (l[i])).2.1), .int .i64 ((Clock.access cc (l[i])).2.2), .int .i64 (Clock.accessErr cc (l[i]))]) (v := .int .i64 (Clock.accessErr cc (l[i]))) rfl rfl) rfl rfl rfl (fun _ hw => HeapIs.drop hw (List.Sublist.cons _ (List.Sublist.cons _ (List.Sublist.cons_cons _ (List.Sublist.cons_cons _ (List.Sublist.cons_cons _ (List.Sublist.cons_cons _ (List.Sublist.cons_cons _ (List.Sublist.slnil))))))))) rfl ?_
          refine h_one (i := 12) (ls := #[true, true, true, true, true, true, true, true, true, true, true, true, true, false, false, false]) (by kernel_rfl) rfl rfl ?_
          refine o_storeN (i := 1) (vs := [.int .i64 (((Clock.access cc (l[i])).1).room), .int .i64 (((Clock.access cc (l[i])).1).hand), .slice a9_5 (((Clock.access cc (l[i])).1).frames).length c9_5]) (cs' := [.int .i64 (((Clock.access cc (l[i])).1).room), .int .i64 (((Clock.access cc (l[i])).1).hand), .slice a9_5 (((Clock.access cc (l[i])).1).frames).length c9_5]) rfl rfl rfl sz59 rfl rfl rfl rfl ?_
          refine o_nil ?_
          refine h_next (fun _ hw => HeapIs.drop hw (List.Sublist.cons _ (List.Sublist.cons _ (List.Sublist.cons_cons _ (List.Sublist.cons_cons _ (List.Sublist.cons_cons _ (List.Sublist.cons_cons _ (List.Sublist.cons_cons _ (List.Sublist.slnil))))))))) ?_
          refine h_take (i := 13) (ls := #[true, true, true, true, true, true, true, true, true, true, true, true, true, true, false, false]) rfl (by kernel_rfl) (by kernel_rfl) (by kernel_rfl) (fun _ _ _ h => h) (p_assign (v := .bool ((Clock.access cc (l[i])).2.1)) rfl) rfl rfl rfl (fun _ hw => HeapIs.drop hw (List.Sublist.cons _ (List.Sublist.cons _ (List.Sublist.cons_cons _ (List.Sublist.cons_cons _ (List.Sublist.cons_cons _ (List.Sublist.cons_cons _ (List.Sublist.cons_cons _ (List.Sublist.slnil))))))))) rfl ?_
          refine h_take (i := 14) (ls := #[true, true, true, true, true, true, true, true, true, true, true, true, true, true, true, false]) rfl (by kernel_rfl) (by kernel_rfl) (by kernel_rfl) (fun _ _ _ h => h) (p_assign (v := .int .i64 ((Clock.access cc (l[i])).2.2)) rfl) rfl rfl rfl (fun _ hw => HeapIs.drop hw (List.Sublist.cons _ (List.Sublist.cons _ (List.Sublist.cons_cons _ (List.Sublist.cons_cons _ (List.Sublist.cons_cons _ (List.Sublist.cons_cons _ (List.Sublist.cons_cons _ (List.Sublist.slnil))))))))) rfl ?_
          refine h_take (i := 15) (ls := #[true, true, true, true, true, true, true, true, true, true, true, true, true, true, true, true]) rfl (by kernel_rfl) (by kernel_rfl) (by kernel_rfl) (fun _ _ _ h => h) (p_assign (v := .int .i64 (Clock.accessErr cc (l[i]))) rfl) rfl rfl rfl (fun _ hw => HeapIs.drop hw (List.Sublist.cons _ (List.Sublist.cons _ (List.Sublist.cons_cons _ (List.Sublist.cons_cons _ (List.Sublist.cons_cons _ (List.Sublist.cons_cons _ (List.Sublist.cons_cons _ (List.Sublist.slnil))))))))) rfl ?_
          refine h_done (by kernel_rfl) ?_
          refine q_kont hK10 (S9_5, a9_5, c9_5, B9_11) (Sub.cons rfl (Sub.cons rfl (Sub.cons rfl (Sub.cons rfl (Sub.cons rfl (Sub.cons rfl (Sub.cons rfl (Sub.cons rfl (Sub.nil _))))))))) (fun _ hw => HeapIs.pick hw [1, 0, 2, 3, 4, 5, 6] (by decide) rfl)
      rintro ⟨S9_5, a9_5, c9_5, B9_11⟩
      show SQ _ 82 w0 _ _ [(1, .slice al l.length cl), (5, .pointer (some ⟨B1, 0, none⟩)), (6, .pointer (some ⟨B2, 0, none⟩)), (7, .int .i64 (i : Int)), (8, .pointer (some ⟨B9_11, 0, none⟩)), (9, .bool ((Clock.access cc (l[i])).2.1)), (10, .int .i64 ((Clock.access cc (l[i])).2.2)), (11, .int .i64 (Clock.accessErr cc (l[i])))] [box B9_11 [.int .i64 (((Clock.access cc (l[i])).1).room), .int .i64 (((Clock.access cc (l[i])).1).hand), .slice a9_5 (((Clock.access cc (l[i])).1).frames).length c9_5] 59, own tFrame S9_5 a9_5 c9_5 (((Clock.access cc (l[i])).1).frames), loose tInt (False) Sdd_0 add_0 cdd_0 dd.keys, loose tFrame (False) Scc_0 acc_0 ccc_0 cc.frames, box B2 [.int .i64 dd.room, .slice add_0 dd.keys.length cdd_0] 95, box B1 [.int .i64 cc.room, .int .i64 cc.hand, .slice acc_0 cc.frames.length ccc_0] 59, base w0]
      refine q_know (fun w hw => own_len (i := 1) (T := tFrame) hw rfl) (fun hlr11 => ?_)
      refine q_then ?_
      refine c_seq ?_
      refine c_cut (G := (Nat → Prop) × Option Addr × Nat × Nat) (fun ⟨S12_5, a12_5, c12_5, B12_11⟩ => [(1, .slice al l.length cl), (5, .pointer (some ⟨B1, 0, none⟩)), (6, .pointer (some ⟨B2, 0, none⟩)), (7, .int .i64 (i : Int)), (8, .pointer (some ⟨B9_11, 0, none⟩)), (9, .bool ((Clock.access cc (l[i])).2.1)), (10, .int .i64 ((Clock.access cc (l[i])).2.2)), (11, .int .i64 (Clock.accessErr cc (l[i]))), (12, .pointer (some ⟨B12_11, 0, none⟩)), (13, .bool ((Lru.access dd (l[i])).2.1)), (14, .int .i64 ((Lru.access dd (l[i])).2.2)), (15, .int .i64 (Lru.accessErr dd (l[i])))]) (fun ⟨S12_5, a12_5, c12_5, B12_11⟩ => [box B12_11 [.int .i64 (((Lru.access dd (l[i])).1).room), .slice a12_5 (((Lru.access dd (l[i])).1).keys).length c12_5] 95, own tInt S12_5 a12_5 c12_5 (((Lru.access dd (l[i])).1).keys), box B9_11 [.int .i64 (((Clock.access cc (l[i])).1).room), .int .i64 (((Clock.access cc (l[i])).1).hand), .slice a9_5 (((Clock.access cc (l[i])).1).frames).length c9_5] 59, own tFrame S9_5 a9_5 c9_5 (((Clock.access cc (l[i])).1).frames), loose tInt (False) Sdd_0 add_0 cdd_0 dd.keys, loose tFrame (False) Scc_0 acc_0 ccc_0 cc.frames, box B2 [.int .i64 dd.room, .slice add_0 dd.keys.length cdd_0] 95, box B1 [.int .i64 cc.room, .int .i64 cc.hand, .slice acc_0 cc.frames.length ccc_0] 59, base w0]) (fun K hK13 => ?_) ?_
      · refine c_held hmix [box B9_11 [.int .i64 (((Clock.access cc (l[i])).1).room), .int .i64 (((Clock.access cc (l[i])).1).hand), .slice a9_5 (((Clock.access cc (l[i])).1).frames).length c9_5] 59, own tFrame S9_5 a9_5 c9_5 (((Clock.access cc (l[i])).1).frames), loose tInt (False) Sdd_0 add_0 cdd_0 dd.keys, loose tFrame (False) Scc_0 acc_0 ccc_0 cc.frames, box B2 [.int .i64 dd.room, .slice add_0 dd.keys.length cdd_0] 95, box B1 [.int .i64 cc.room, .int .i64 cc.hand, .slice acc_0 cc.frames.length ccc_0] 59, base w0] rfl rfl ?_
        refine h_take (i := 0) (ls := #[true, false, false, false, false, false, false, false, false, false, false, false, false, false, false, false]) rfl (by kernel_rfl) (by kernel_rfl) (by kernel_rfl) (fun _ _ _ h => h) (p_load_agg (i := 4) (vs := [.int .i64 dd.room, .slice add_0 dd.keys.length cdd_0]) rfl rfl sh95 rfl rfl) rfl rfl rfl (fun _ hw => HeapIs.drop hw (List.Sublist.refl _)) rfl ?_
        refine h_take (i := 1) (ls := #[true, true, false, false, false, false, false, false, false, false, false, false, false, false, false, false]) rfl (by kernel_rfl) (by kernel_rfl) (by kernel_rfl) (fun _ _ _ h => h) (p_move (v := .slice al l.length cl) rfl) rfl rfl rfl (fun _ hw => HeapIs.drop hw (List.Sublist.refl _)) rfl ?_
        refine h_take (i := 2) (ls := #[true, true, true, false, false, false, false, false, false, false, false, false, false, false, false, false]) rfl (by kernel_rfl) (by kernel_rfl) (by kernel_rfl) (fun _ _ _ h => h) (p_move (v := .int .i64 (i : Int)) rfl) rfl rfl rfl (fun _ hw => HeapIs.drop hw (List.Sublist.refl _)) rfl ?_
        refine h_take (i := 3) (ls := #[true, true, true, true, false, false, false, false, false, false, false, false, false, false, false, false]) rfl (by kernel_rfl) (by kernel_rfl) (by kernel_rfl) (fun _ _ _ h => h) (p_indexAddr (L := l) (T := tInt) (i := (i : Int)) rfl rfl (rd_base (i := 6) rfl hl) Try.underlying22 sz3 (by omega) (by omega)) rfl rfl rfl (fun _ hw => HeapIs.drop hw (List.Sublist.refl _)) rfl ?_
        refine h_take (i := 4) (ls := #[true, true, true, true, true, false, false, false, false, false, false, false, false, false, false, false]) rfl (by kernel_rfl) (by kernel_rfl) (by kernel_rfl) (fun _ _ _ h => h) (p_loadE1 (i := i) (T := tInt) (L := l) (v := .int .i64 (l[i])) rfl (rd_base (i := 6) rfl hl) (by first | assumption | omega) sh3 rfl) rfl rfl rfl (fun _ hw => HeapIs.drop hw (List.Sublist.refl _)) rfl ?_
        refine h_two (i := 5) (j := 11) (ls := #[true, true, true, true, true, true, false, false, false, false, false, false, false, false, false, false]) (ls' := #[true, true, true, true, true, false, false, false, false, false, false, true, false, false, false, false]) (by kernel_rfl) rfl rfl rfl rfl ?_ ?_
        · refine o_callM rfl (laccess_ok dd add_0 cdd_0 (l[i])) hf61 (fun w hw => (rd_loose (i := 2) rfl (fun hφ => hφ.elim)) w hw) rfl (fun _ _ _ _ ha hA => SlO.agree ha hA) ?_
          rintro ⟨a12_5, c12_5⟩ S12_5
          refine o_know (fun w hw => own_len (i := 0) (T := tInt) hw rfl) (fun hlr12_5 => ?_)
          refine o_nil ?_
          refine h_next (fun _ hw => HeapIs.drop hw (List.Sublist.cons _ (List.Sublist.cons_cons _ (List.Sublist.cons_cons _ (List.Sublist.cons_cons _ (List.Sublist.cons_cons _ (List.Sublist.cons_cons _ (List.Sublist.cons_cons _ (List.Sublist.cons_cons _ (List.Sublist.slnil)))))))))) ?_
          refine h_take (i := 6) (ls := #[true, true, true, true, true, true, true, false, false, false, false, false, false, false, false, false]) rfl (by kernel_rfl) (by kernel_rfl) (by kernel_rfl) (fun _ _ _ h => h) (p_move (v := .tuple #[.agg #[.int .i64 (((Lru.access dd (l[i])).1).room), .slice a12_5 (((Lru.access dd (l[i])).1).keys).length c12_5], .bool ((Lru.access dd (l[i])).2.1), .int .i64 ((Lru.access dd (l[i])).2.2), .int .i64 (Lru.accessErr dd (l[i]))]) rfl) rfl rfl rfl (fun _ hw => HeapIs.drop hw (List.Sublist.cons _ (List.Sublist.cons_cons _ (List.Sublist.cons_cons _ (List.Sublist.cons_cons _ (List.Sublist.cons_cons _ (List.Sublist.cons_cons _ (List.Sublist.cons_cons _ (List.Sublist.cons_cons _ (List.Sublist.slnil)))))))))) rfl ?_
          refine h_take (i := 7) (ls := #[true, true, true, true, true, true, true, true, false, false, false, false, false, false, false, false]) rfl (by kernel_rfl) (by kernel_rfl) (by kernel_rfl) (fun _ _ _ h => h) (p_extract (vs := [.agg #[.int .i64 (((Lru.access dd (l[i])).1).room), .slice a12_5 (((Lru.access dd (l[i])).1).keys).length c12_5], .bool ((Lru.access dd (l[i])).2.1), .int .i64 ((Lru.access dd (l[i])).2.2), .int .i64 (Lru.accessErr dd (l[i]))]) (v := .agg #[.int .i64 (((Lru.access dd (l[i])).1).room), .slice a12_5 (((Lru.access dd (l[i])).1).keys).length c12_5]) rfl rfl) rfl rfl rfl (fun _ hw => HeapIs.drop hw (List.Sublist.cons _ (List.Sublist.cons_cons _ (List.Sublist.cons_cons _ (List.Sublist.cons_cons _ (List.Sublist.cons_cons _ (List.Sublist.cons_cons _ (List.Sublist.cons_cons _ (List.Sublist.cons_cons _ (List.Sublist.slnil)))))))))) rfl ?_
          refine h_take (i := 8) (ls := #[true, true, true, true, true, true, true, true, true, false, false, false, false, false, false, false]) rfl (by kernel_rfl) (by kernel_rfl) (by kernel_rfl) (fun _ _ _ h => h) (p_extract (vs := [.agg #[.int .i64 (((Lru.access dd (l[i])).1).room), .slice a12_5 (((Lru.access dd (l[i])).1).keys).length c12_5], .bool ((Lru.access dd (l[i])).2.1), .int .i64 ((Lru.access dd (l[i])).2.2), .int .i64 (Lru.accessErr dd (l[i]))]) (v := .bool ((Lru.access dd (l[i])).2.1)) rfl rfl) rfl rfl rfl (fun _ hw => HeapIs.drop hw (List.Sublist.cons _ (List.Sublist.cons_cons _ (List.Sublist.cons_cons _ (List.Sublist.cons_cons _ (List.Sublist.cons_cons _ (List.Sublist.cons_cons _ (List.Sublist.cons_cons _ (List.Sublist.cons_cons _ (List.Sublist.slnil)))))))))) rfl ?_
          refine h_take (i := 9) (ls := #[true, true, true, true, true, true, true, true, true, true, false, false, false, false, false, false]) rfl (by kernel_rfl) (by kernel_rfl) (by kernel_rfl) (fun _ _ _ h => h) (p_extract (vs := [.agg #[.int .i64 (((Lru.access dd (l[i])).1).room), .slice a12_5 (((Lru.access dd (l[i])).1).keys).length c12_5], .bool ((Lru.access dd (l[i])).2.1), .int .i64 ((Lru.access dd (l[i])).2.2), .int .i64 (Lru.accessErr dd (l[i]))]) (v := .int .i64 ((Lru.access dd (l[i])).2.2)) rfl rfl) rfl rfl rfl (fun _ hw => HeapIs.drop hw (List.Sublist.cons _ (List.Sublist.cons_cons _ (List.Sublist.cons_cons _ (List.Sublist.cons_cons _ (List.Sublist.cons_cons _ (List.Sublist.cons_cons _ (List.Sublist.cons_cons _ (List.Sublist.cons_cons _ (List.Sublist.slnil)))))))))) rfl ?_
          refine h_take (i := 10) (ls := #[true, true, true, true, true, true, true, true, true, true, true, false, false, false, false, false]) rfl (by kernel_rfl) (by kernel_rfl) (by kernel_rfl) (fun _ _ _ h => h) (p_extract (vs := [.agg #[.int .i64 (((Lru.access dd (l[i])).1).room), .slice a12_5 (((Lru.access dd (l[i])).1).keys).length c12_5], .bool ((Lru.access dd (l[i])).2.1), .int .i64 ((Lru.access dd (l[i])).2.2), .int .i64 (Lru.accessErr dd (l[i]))]) (v := .int .i64 (Lru.accessErr dd (l[i]))) rfl rfl) rfl rfl rfl (fun _ hw => HeapIs.drop hw (List.Sublist.cons _ (List.Sublist.cons_cons _ (List.Sublist.cons_cons _ (List.Sublist.cons_cons _ (List.Sublist.cons_cons _ (List.Sublist.cons_cons _ (List.Sublist.cons_cons _ (List.Sublist.cons_cons _ (List.Sublist.slnil)))))))))) rfl ?_
          refine h_one (i := 11) (ls := #[true, true, true, true, true, true, true, true, true, true, true, true, false, false, false, false]) (by kernel_rfl) rfl rfl ?_
          refine o_alloc ze95 rfl (fun B12_11 => ?_)
          refine o_nil ?_
          refine h_next (fun _ hw => HeapIs.drop hw (List.Sublist.cons _ (List.Sublist.cons _ (List.Sublist.cons_cons _ (List.Sublist.cons_cons _ (List.Sublist.cons_cons _ (List.Sublist.cons_cons _ (List.Sublist.cons_cons _ (List.Sublist.cons_cons _ (List.Sublist.cons_cons _ (List.Sublist.slnil))))))))))) ?_
          refine h_one (i := 12) (ls := #[true, true, true, true, true, true, true, true, true, true, true, true, true, false, false, false]) (by kernel_rfl) rfl rfl ?_
          refine o_storeN (i := 0) (vs := [.int .i64 (((Lru.access dd (l[i])).1).room), .slice a12_5 (((Lru.access dd (l[i])).1).keys).length c12_5]) (cs' := [.int .i64 (((Lru.access dd (l[i])).1).room), .slice a12_5 (((Lru.access dd (l[i])).1).keys).length c12_5]) rfl rfl rfl sz95 rfl rfl rfl rfl ?_
          refine o_nil ?_
          refine h_next (fun _ hw => HeapIs.drop hw (List.Sublist.cons _ (List.Sublist.cons _ (List.Sublist.cons_cons _ (List.Sublist.cons_cons _ (List.Sublist.cons_cons _ (List.Sublist.cons_cons _ (List.Sublist.cons_cons _ (List.Sublist.cons_cons _ (List.Sublist.cons_cons _ (List.Sublist.slnil))))))))))) ?_
          refine h_take (i := 13) (ls := #[true, true, true, true, true, true, true, true, true, true, true, true, true, true, false, false]) rfl (by kernel_rfl) (by kernel_rfl) (by kernel_rfl) (fun _ _ _ h => h) (p_assign (v := .bool ((Lru.access dd (l[i])).2.1)) rfl) rfl rfl rfl (fun _ hw => HeapIs.drop hw (List.Sublist.cons _ (List.Sublist.cons _ (List.Sublist.cons_cons _ (List.Sublist.cons_cons _ (List.Sublist.cons_cons _ (List.Sublist.cons_cons _ (List.Sublist.cons_cons _ (List.Sublist.cons_cons _ (List.Sublist.cons_cons _ (List.Sublist.slnil))))))))))) rfl ?_
          refine h_take (i := 14) (ls := #[true, true, true, true, true, true, true, true, true, true, true, true, true, true, true, false]) rfl (by kernel_rfl) (by kernel_rfl) (by kernel_rfl) (fun _ _ _ h => h) (p_assign (v := .int .i64 ((Lru.access dd (l[i])).2.2)) rfl) rfl rfl rfl (fun _ hw => HeapIs.drop hw (List.Sublist.cons _ (List.Sublist.cons _ (List.Sublist.cons_cons _ (List.Sublist.cons_cons _ (List.Sublist.cons_cons _ (List.Sublist.cons_cons _ (List.Sublist.cons_cons _ (List.Sublist.cons_cons _ (List.Sublist.cons_cons _ (List.Sublist.slnil))))))))))) rfl ?_
          refine h_take (i := 15) (ls := #[true, true, true, true, true, true, true, true, true, true, true, true, true, true, true, true]) rfl (by kernel_rfl) (by kernel_rfl) (by kernel_rfl) (fun _ _ _ h => h) (p_assign (v := .int .i64 (Lru.accessErr dd (l[i]))) rfl) rfl rfl rfl (fun _ hw => HeapIs.drop hw (List.Sublist.cons _ (List.Sublist.cons _ (List.Sublist.cons_cons _ (List.Sublist.cons_cons _ (List.Sublist.cons_cons _ (List.Sublist.cons_cons _ (List.Sublist.cons_cons _ (List.Sublist.cons_cons _ (List.Sublist.cons_cons _ (List.Sublist.slnil))))))))))) rfl ?_
          refine h_done (by kernel_rfl) ?_
          refine q_kont hK13 (S12_5, a12_5, c12_5, B12_11) (Sub.cons rfl (Sub.cons rfl (Sub.cons rfl (Sub.cons rfl (Sub.cons rfl (Sub.cons rfl (Sub.cons rfl (Sub.cons rfl (Sub.cons rfl (Sub.cons rfl (Sub.cons rfl (Sub.cons rfl (Sub.nil _))))))))))))) (fun _ hw => HeapIs.pick hw [0, 1, 2, 3, 4, 5, 6, 7, 8] (by decide) rfl)
        · refine o_alloc ze95 rfl (fun B12_11 => ?_)
          refine o_nil ?_
          refine h_next (fun _ hw => HeapIs.drop hw (List.Sublist.cons _ (List.Sublist.cons_cons _ (List.Sublist.cons_cons _ (List.Sublist.cons_cons _ (List.Sublist.cons_cons _ (List.Sublist.cons_cons _ (List.Sublist.cons_cons _ (List.Sublist.cons_cons _ (List.Sublist.slnil)))))))))) ?_
          refine h_one (i := 5) (ls := #[true, true, true, true, true, true, false, false, false, false, false, true, false, false, false, false]) (by kernel_rfl) rfl rfl ?_
          refine o_callM rfl (laccess_ok dd add_0 cdd_0 (l[i])) hf61 (fun w hw => (rd_loose (i := 3) rfl (fun hφ => hφ.elim)) w hw) rfl (fun _ _ _ _ ha hA => SlO.agree ha hA) ?_
          rintro ⟨a12_5, c12_5⟩ S12_5
          refine o_know (fun w hw => own_len (i := 0) (T := tInt) hw rfl) (fun hlr12_5 => ?_)
          refine o_nil ?_
          refine h_next (fun _ hw => HeapIs.drop hw (List.Sublist.cons _ (List.Sublist.cons _ (List.Sublist.cons_cons _ (List.Sublist.cons_cons _ (List.Sublist.cons_cons _ (List.Sublist.cons_cons _ (List.Sublist.cons_cons _ (List.Sublist.cons_cons _ (List.Sublist.cons_cons _ (List.Sublist.slnil))))))))))) ?_
          refine h_take (i := 6) (ls := #[true, true, true, true, true, true, true, false, false, false, false, true, false, false, false, false]) rfl (by kernel_rfl) (by kernel_rfl) (by kernel_rfl) (fun _ _ _ h => h) (p_move (v := .tuple #[.agg #[.int .i64 (((Lru.access dd (l[i])).1).room), .slice a12_5 (((Lru.access dd (l[i])).1).keys).length c12_5], .bool ((Lru.access dd (l[i])).2.1), .int .i64 ((Lru.access dd (l[i])).2.2), .int .i64 (Lru.accessErr dd (l[i]))]) rfl) rfl rfl rfl (fun _ hw => HeapIs.drop hw (List.Sublist.cons _ (List.Sublist.cons _ (List.Sublist.cons_cons _ (List.Sublist.cons_cons _ (List.Sublist.cons_cons _ (List.Sublist.cons_cons _ (List.Sublist.cons_cons _ (List.Sublist.cons_cons _ (List.Sublist.cons_cons _ (List.Sublist.slnil))))))))))) rfl ?_
          refine h_take (i := 7) (ls := #[true, true, true, true, true, true, true, true, false, false, false, true, false, false, false, false]) rfl (by kernel_rfl) (by kernel_rfl) (by kernel_rfl) (fun _ _ _ h => h) (p_extract (vs := [.agg #[.int .i64 (((Lru.access dd (l[i])).1).room), .slice a12_5 (((Lru.access dd (l[i])).1).keys).length c12_5], .bool ((Lru.access dd (l[i])).2.1), .int .i64 ((Lru.access dd (l[i])).2.2), .int .i64 (Lru.accessErr dd (l[i]))]) (v := .agg #[.int .i64 (((Lru.access dd (l[i])).1).room), .slice a12_5 (((Lru.access dd (l[i])).1).keys).length c12_5]) rfl rfl) rfl rfl rfl (fun _ hw => HeapIs.drop hw (List.Sublist.cons _ (List.Sublist.cons _ (List.Sublist.cons_cons _ (List.Sublist.cons_cons _ (List.Sublist.cons_cons _ (List.Sublist.cons_cons _ (List.Sublist.cons_cons _ (List.Sublist.cons_cons _ (List.Sublist.cons_cons _ (List.Sublist.slnil))))))))))) rfl ?_
          refine h_take (i := 8) (ls := #[true, true, true, true, true, true, true, true, true, false, false, true, false, false, false, false]) rfl (by kernel_rfl) (by kernel_rfl) (by kernel_rfl) (fun _ _ _ h => h) (p_extract (vs := [.agg #[.int .i64 (((Lru.access dd (l[i])).1).room), .slice a12_5 (((Lru.access dd (l[i])).1).keys).length c12_5], .bool ((Lru.access dd (l[i])).2.1), .int .i64 ((Lru.access dd (l[i])).2.2), .int .i64 (Lru.accessErr dd (l[i]))]) (v := .bool ((Lru.access dd (l[i])).2.1)) rfl rfl) rfl rfl rfl (fun _ hw => HeapIs.drop hw (List.Sublist.cons _ (List.Sublist.cons _ (List.Sublist.cons_cons _ (List.Sublist.cons_cons _ (List.Sublist.cons_cons _ (List.Sublist.cons_cons _ (List.Sublist.cons_cons _ (List.Sublist.cons_cons _ (List.Sublist.cons_cons _ (List.Sublist.slnil))))))))))) rfl ?_
          refine h_take (i := 9) (ls := #[true, true, true, true, true, true, true, true, true, true, false, true, false, false, false, false]) rfl (by kernel_rfl) (by kernel_rfl) (by kernel_rfl) (fun _ _ _ h => h) (p_extract (vs := [.agg #[.int .i64 (((Lru.access dd (l[i])).1).room), .slice a12_5 (((Lru.access dd (l[i])).1).keys).length c12_5], .bool ((Lru.access dd (l[i])).2.1), .int .i64 ((Lru.access dd (l[i])).2.2), .int .i64 (Lru.accessErr dd (l[i]))]) (v := .int .i64 ((Lru.access dd (l[i])).2.2)) rfl rfl) rfl rfl rfl (fun _ hw => HeapIs.drop hw (List.Sublist.cons _ (List.Sublist.cons _ (List.Sublist.cons_cons _ (List.Sublist.cons_cons _ (List.Sublist.cons_cons _ (List.Sublist.cons_cons _ (List.Sublist.cons_cons _ (List.Sublist.cons_cons _ (List.Sublist.cons_cons _ (List.Sublist.slnil))))))))))) rfl ?_
          refine h_take (i := 10) (ls := #[true, true, true, true, true, true, true, true, true, true, true, true, false, false, false, false]) rfl (by kernel_rfl) (by kernel_rfl) (by kernel_rfl) (fun _ _ _ h => h) (p_extract (vs := [.agg #[.int .i64 (((Lru.access dd (l[i])).1).room), .slice a12_5 (((Lru.access dd (l[i])).1).keys).length c12_5], .bool ((Lru.access dd (l[i])).2.1), .int .i64 ((Lru.access dd (l[i])).2.2), .int .i64 (Lru.accessErr dd (l[i]))]) (v := .int .i64 (Lru.accessErr dd (l[i]))) rfl rfl) rfl rfl rfl (fun _ hw => HeapIs.drop hw (List.Sublist.cons _ (List.Sublist.cons _ (List.Sublist.cons_cons _ (List.Sublist.cons_cons _ (List.Sublist.cons_cons _ (List.Sublist.cons_cons _ (List.Sublist.cons_cons _ (List.Sublist.cons_cons _ (List.Sublist.cons_cons _ (List.Sublist.slnil))))))))))) rfl ?_
          refine h_one (i := 12) (ls := #[true, true, true, true, true, true, true, true, true, true, true, true, true, false, false, false]) (by kernel_rfl) rfl rfl ?_
          refine o_storeN (i := 1) (vs := [.int .i64 (((Lru.access dd (l[i])).1).room), .slice a12_5 (((Lru.access dd (l[i])).1).keys).length c12_5]) (cs' := [.int .i64 (((Lru.access dd (l[i])).1).room), .slice a12_5 (((Lru.access dd (l[i])).1).keys).length c12_5]) rfl rfl rfl sz95 rfl rfl rfl rfl ?_
          refine o_nil ?_
          refine h_next (fun _ hw => HeapIs.drop hw (List.Sublist.cons _ (List.Sublist.cons _ (List.Sublist.cons_cons _ (List.Sublist.cons_cons _ (List.Sublist.cons_cons _ (List.Sublist.cons_cons _ (List.Sublist.cons_cons _ (List.Sublist.cons_cons _ (List.Sublist.cons_cons _ (List.Sublist.slnil))))))))))) ?_
          refine h_take (i := 13) (ls := #[true, true, true, true, true, true, true, true, true, true, true, true, true, true, false, false]) rfl (by kernel_rfl) (by kernel_rfl) (by kernel_rfl) (fun _ _ _ h => h) (p_assign (v := .bool ((Lru.access dd (l[i])).2.1)) rfl) rfl rfl rfl (fun _ hw => HeapIs.drop hw (List.Sublist.cons _ (List.Sublist.cons _ (List.Sublist.cons_cons _ (List.Sublist.cons_cons _ (List.Sublist.cons_cons _ (List.Sublist.cons_cons _ (List.Sublist.cons_cons _ (List.Sublist.cons_cons _ (List.Sublist.cons_cons _ (List.Sublist.slnil))))))))))) rfl ?_
          refine h_take (i := 14) (ls := #[true, true, true, true, true, true, true, true, true, true, true, true, true, true, true, false]) rfl (by kernel_rfl) (by kernel_rfl) (by kernel_rfl) (fun _ _ _ h => h) (p_assign (v := .int .i64 ((Lru.access dd (l[i])).2.2)) rfl) rfl rfl rfl (fun _ hw => HeapIs.drop hw (List.Sublist.cons _ (List.Sublist.cons _ (List.Sublist.cons_cons _ (List.Sublist.cons_cons _ (List.Sublist.cons_cons _ (List.Sublist.cons_cons _ (List.Sublist.cons_cons _ (List.Sublist.cons_cons _ (List.Sublist.cons_cons _ (List.Sublist.slnil))))))))))) rfl ?_
          refine h_take (i := 15) (ls := #[true, true, true, true, true, true, true, true, true, true, true, true, true, true, true, true]) rfl (by kernel_rfl) (by kernel_rfl) (by kernel_rfl) (fun _ _ _ h => h) (p_assign (v := .int .i64 (Lru.accessErr dd (l[i]))) rfl) rfl rfl rfl (fun _ hw => HeapIs.drop hw (List.Sublist.cons _ (List.Sublist.cons _ (List.Sublist.cons_cons _ (List.Sublist.cons_cons _ (List.Sublist.cons_cons _ (List.Sublist.cons_cons _ (List.Sublist.cons_cons _ (List.Sublist.cons_cons _ (List.Sublist.cons_cons _ (List.Sublist.slnil))))))))))) rfl ?_
          refine h_done (by kernel_rfl) ?_
          refine q_kont hK13 (S12_5, a12_5, c12_5, B12_11) (Sub.cons rfl (Sub.cons rfl (Sub.cons rfl (Sub.cons rfl (Sub.cons rfl (Sub.cons rfl (Sub.cons rfl (Sub.cons rfl (Sub.cons rfl (Sub.cons rfl (Sub.cons rfl (Sub.cons rfl (Sub.nil _))))))))))))) (fun _ hw => HeapIs.pick hw [1, 0, 2, 3, 4, 5, 6, 7, 8] (by decide) rfl)
      rintro ⟨S12_5, a12_5, c12_5, B12_11⟩
      show SQ _ 82 w0 _ _ [(1, .slice al l.length cl), (5, .pointer (some ⟨B1, 0, none⟩)), (6, .pointer (some ⟨B2, 0, none⟩)), (7, .int .i64 (i : Int)), (8, .pointer (some ⟨B9_11, 0, none⟩)), (9, .bool ((Clock.access cc (l[i])).2.1)), (10, .int .i64 ((Clock.access cc (l[i])).2.2)), (11, .int .i64 (Clock.accessErr cc (l[i]))), (12, .pointer (some ⟨B12_11, 0, none⟩)), (13, .bool ((Lru.access dd (l[i])).2.1)), (14, .int .i64 ((Lru.access dd (l[i])).2.2)), (15, .int .i64 (Lru.accessErr dd (l[i])))] [box B12_11 [.int .i64 (((Lru.access dd (l[i])).1).room), .slice a12_5 (((Lru.access dd (l[i])).1).keys).length c12_5] 95, own tInt S12_5 a12_5 c12_5 (((Lru.access dd (l[i])).1).keys), box B9_11 [.int .i64 (((Clock.access cc (l[i])).1).room), .int .i64 (((Clock.access cc (l[i])).1).hand), .slice a9_5 (((Clock.access cc (l[i])).1).frames).length c9_5] 59, own tFrame S9_5 a9_5 c9_5 (((Clock.access cc (l[i])).1).frames), loose tInt (False) Sdd_0 add_0 cdd_0 dd.keys, loose tFrame (False) Scc_0 acc_0 ccc_0 cc.frames, box B2 [.int .i64 dd.room, .slice add_0 dd.keys.length cdd_0] 95, box B1 [.int .i64 cc.room, .int .i64 cc.hand, .slice acc_0 cc.frames.length ccc_0] 59, base w0]
      refine q_know (fun w hw => own_len (i := 1) (T := tInt) hw rfl) (fun hlr14 => ?_)
      refine q_then ?_
      refine c_seq ?_
      refine c_seq ?_
      refine c_region ?_
      refine o_pure (p_move (v := .int .i64 (Clock.accessErr cc (l[i]))) rfl) rfl rfl rfl ?_
      refine o_pure (p_ne (p := (Clock.accessErr cc (l[i]))) (q := 0) rfl rfl) rfl rfl rfl ?_
      refine o_pure (p_move (v := .bool ((Clock.accessErr cc (l[i])) != 0)) rfl) rfl rfl rfl ?_
      refine o_or (p := 67) 3 ((Lru.accessErr dd (l[i])) != 0) ?_ ?_ ?_
      · intro hb15 hk
        simp only [bne_eq_false_iff_eq] at hb15
        refine o_unguard 64 rfl rfl ?_
        refine o_pure (p_move (v := .int .i64 (Lru.accessErr dd (l[i]))) rfl) rfl rfl rfl ?_
        refine o_unguard 64 rfl rfl ?_
        refine o_pure (p_ne (p := (Lru.accessErr dd (l[i]))) (q := 0) rfl rfl) rfl rfl rfl ?_
        refine o_pure (p_pick_false (v := .bool ((Lru.accessErr dd (l[i])) != 0)) rfl rfl) rfl rfl rfl ?_
        exact o_sub (Sub.cons rfl (Sub.skip rfl (Sub.skip rfl (Sub.skip rfl (Sub.skip rfl (Sub.refl _)))))) hk
      · intro hb15 hk
        refine o_guard_no rfl 64 rfl rfl rfl rfl rfl ?_
        refine o_guard_no rfl 64 rfl rfl rfl rfl rfl ?_
        refine o_pure (p_pick_true (u := .bool true) rfl rfl) rfl rfl rfl ?_
        exact o_sub (Sub.cons rfl (Sub.skip rfl (Sub.skip rfl (Sub.skip rfl (Sub.skip rfl (Sub.refl _)))))) hk
      refine o_nil ?_
      refine q_then ?_
      refine c_cond (b := (((Clock.accessErr cc (l[i])) != 0) || ((Lru.accessErr dd (l[i])) != 0))) rfl (fun hc16 => ?_) (fun hc16 => ?_)
      · simp only [Bool.or_eq_true, bne_iff_ne, ne_eq] at hc16
        refine c_seq ?_
        refine c_region ?_
        refine o_pure (p_move (v := .int .i64 (Clock.accessErr cc (l[i]))) rfl) rfl rfl rfl ?_
        refine o_pure (p_move (v := .int .i64 (Lru.accessErr dd (l[i]))) rfl) rfl rfl rfl ?_
        refine o_pure (p_eq (p := (Clock.accessErr cc (l[i]))) (q := (Lru.accessErr dd (l[i]))) rfl rfl) rfl rfl rfl ?_
        refine o_pure (p_assign (v := .bool ((Clock.accessErr cc (l[i])) == (Lru.accessErr dd (l[i])))) rfl) rfl rfl rfl ?_
        refine o_nil ?_
        refine q_then ?_
        refine c_ret ?_
        refine q_then_ret (q_block_ret (q_then_ret (q_then_ret (q_block_ret (q_then_ret ?_)))))
        have hr0 : (((Clock.accessErr cc (l[i])) == (Lru.accessErr dd (l[i]))) : Bool) = true := by
          first | rfl | exact Fifo.err_dec hI.2 | exact Fifo.no_or hst (by assumption)
        refine q_end0 (v := .bool ((Clock.accessErr cc (l[i])) == (Lru.accessErr dd (l[i])))) (rt1 rfl (r_tmp rfl)) (i := 8) rfl ?_
        exact (by have hcc := congrArg (fun (y0 : Bool) => (.bool y0 : Value)) hr0; exact hcc)
      · simp only [Bool.or_eq_false_iff, bne_eq_false_iff_eq] at hc16
        have hst := Fifo.step_or hI.2 hI.1 (by omega) (by assumption) hc16
        refine c_skip ?_
        refine q_then ?_
        refine c_seq ?_
        refine c_seq ?_
        refine c_region ?_
        refine o_pure (p_move (v := .bool ((Clock.access cc (l[i])).2.1)) rfl) rfl rfl rfl ?_
        refine o_pure (p_move (v := .bool ((Clock.access cc (l[i])).2.1)) rfl) rfl rfl rfl ?_
        refine o_or (p := 74) 2 ((Lru.access dd (l[i])).2.1) ?_ ?_ ?_
        · intro hb17 hk
          skip
          refine o_unguard 72 rfl rfl ?_
          refine o_pure (p_move (v := .bool ((Lru.access dd (l[i])).2.1)) rfl) rfl rfl rfl ?_
          refine o_pure (p_pick_false (v := .bool ((Lru.access dd (l[i])).2.1)) rfl rfl) rfl rfl rfl ?_
          exact o_sub (Sub.cons rfl (Sub.skip rfl (Sub.skip rfl (Sub.skip rfl (Sub.refl _))))) hk
        · intro hb17 hk
          refine o_guard_no rfl 72 rfl rfl rfl rfl rfl ?_
          refine o_pure (p_pick_true (u := .bool true) rfl rfl) rfl rfl rfl ?_
          exact o_sub (Sub.cons rfl (Sub.skip rfl (Sub.skip rfl (Sub.skip rfl (Sub.refl _))))) hk
        refine o_pure (p_move (v := .bool (((Clock.access cc (l[i])).2.1) || ((Lru.access dd (l[i])).2.1))) rfl) rfl rfl rfl ?_
        refine o_or (p := 79) 4 (((Clock.access cc (l[i])).2.2) != ((Lru.access dd (l[i])).2.2)) ?_ ?_ ?_
        · intro hb18 hk
          simp only [Bool.or_eq_false_iff] at hb18
          refine o_unguard 75 rfl rfl ?_
          refine o_pure (p_move (v := .int .i64 ((Clock.access cc (l[i])).2.2)) rfl) rfl rfl rfl ?_
          refine o_unguard 75 rfl rfl ?_
          refine o_pure (p_move (v := .int .i64 ((Lru.access dd (l[i])).2.2)) rfl) rfl rfl rfl ?_
          refine o_unguard 75 rfl rfl ?_
          refine o_pure (p_ne (p := ((Clock.access cc (l[i])).2.2)) (q := ((Lru.access dd (l[i])).2.2)) rfl rfl) rfl rfl rfl ?_
          refine o_pure (p_pick_false (v := .bool (((Clock.access cc (l[i])).2.2) != ((Lru.access dd (l[i])).2.2))) rfl rfl) rfl rfl rfl ?_
          exact o_sub (Sub.cons rfl (Sub.skip rfl (Sub.skip rfl (Sub.skip rfl (Sub.skip rfl (Sub.skip rfl (Sub.refl _))))))) hk
        · intro hb18 hk
          refine o_guard_no rfl 75 rfl rfl rfl rfl rfl ?_
          refine o_guard_no rfl 75 rfl rfl rfl rfl rfl ?_
          refine o_guard_no rfl 75 rfl rfl rfl rfl rfl ?_
          refine o_pure (p_pick_true (u := .bool true) rfl rfl) rfl rfl rfl ?_
          exact o_sub (Sub.cons rfl (Sub.skip rfl (Sub.skip rfl (Sub.skip rfl (Sub.skip rfl (Sub.skip rfl (Sub.refl _))))))) hk
        refine o_nil ?_
        refine q_then ?_
        refine c_cond (b := ((((Clock.access cc (l[i])).2.1) || ((Lru.access dd (l[i])).2.1)) || (((Clock.access cc (l[i])).2.2) != ((Lru.access dd (l[i])).2.2)))) rfl (fun hc19 => ?_) (fun hc19 => ?_)
        · simp only [Bool.or_eq_true, bne_iff_ne, ne_eq] at hc19
          refine c_seq ?_
          refine c_region ?_
          refine o_pure (p_assign (v := .bool false) rfl) rfl rfl rfl ?_
          refine o_nil ?_
          refine q_then ?_
          refine c_ret ?_
          refine q_then_ret (q_block_ret (q_then_ret (q_then_ret (q_block_ret (q_then_ret ?_)))))
          have hr0 : (false : Bool) = true := by
            first | rfl | exact Fifo.err_dec hI.2 | exact Fifo.no_or hst (by assumption)
          refine q_end0 (v := .bool false) (rt1 rfl (r_tmp rfl)) (i := 8) rfl ?_
          exact (by have hcc := congrArg (fun (y0 : Bool) => (.bool y0 : Value)) hr0; exact hcc)
        · simp only [Bool.or_eq_false_iff, bne_eq_false_iff_eq] at hc19
          refine c_skip ?_
          refine q_then ?_
          refine c_held hmix [box B12_11 [.int .i64 (((Lru.access dd (l[i])).1).room), .slice a12_5 (((Lru.access dd (l[i])).1).keys).length c12_5] 95, own tInt S12_5 a12_5 c12_5 (((Lru.access dd (l[i])).1).keys), box B9_11 [.int .i64 (((Clock.access cc (l[i])).1).room), .int .i64 (((Clock.access cc (l[i])).1).hand), .slice a9_5 (((Clock.access cc (l[i])).1).frames).length c9_5] 59, own tFrame S9_5 a9_5 c9_5 (((Clock.access cc (l[i])).1).frames), loose tInt (False) Sdd_0 add_0 cdd_0 dd.keys, loose tFrame (False) Scc_0 acc_0 ccc_0 cc.frames, base w0] rfl rfl ?_
          refine h_take (i := 0) (ls := #[true, false, false, false]) rfl (by kernel_rfl) (by kernel_rfl) (by kernel_rfl) (fun _ _ _ h => h) (p_load_agg (i := 2) (vs := [.int .i64 (((Clock.access cc (l[i])).1).room), .int .i64 (((Clock.access cc (l[i])).1).hand), .slice a9_5 (((Clock.access cc (l[i])).1).frames).length c9_5]) rfl rfl sh59 rfl rfl) rfl rfl rfl (fun _ hw => HeapIs.drop hw (List.Sublist.cons_cons _ (List.Sublist.cons_cons _ (List.Sublist.cons_cons _ (List.Sublist.cons_cons _ (List.Sublist.cons_cons _ (List.Sublist.cons_cons _ (List.Sublist.cons _ (List.Sublist.cons _ (List.Sublist.cons_cons _ (List.Sublist.slnil))))))))))) rfl ?_
          refine h_take (i := 1) (ls := #[true, true, false, false]) rfl (by kernel_rfl) (by kernel_rfl) (by kernel_rfl) (fun _ _ _ h => h) (p_load_agg (i := 0) (vs := [.int .i64 (((Lru.access dd (l[i])).1).room), .slice a12_5 (((Lru.access dd (l[i])).1).keys).length c12_5]) rfl rfl sh95 rfl rfl) rfl rfl rfl (fun _ hw => HeapIs.drop hw (List.Sublist.cons_cons _ (List.Sublist.cons_cons _ (List.Sublist.cons_cons _ (List.Sublist.cons_cons _ (List.Sublist.cons_cons _ (List.Sublist.cons_cons _ (List.Sublist.cons _ (List.Sublist.cons _ (List.Sublist.cons_cons _ (List.Sublist.slnil))))))))))) rfl ?_
          refine h_one (i := 2) (ls := #[true, true, true, false]) (by kernel_rfl) rfl rfl ?_
          refine o_storeN (i := 7) (vs := [.int .i64 (((Clock.access cc (l[i])).1).room), .int .i64 (((Clock.access cc (l[i])).1).hand), .slice a9_5 (((Clock.access cc (l[i])).1).frames).length c9_5]) (cs' := [.int .i64 (((Clock.access cc (l[i])).1).room), .int .i64 (((Clock.access cc (l[i])).1).hand), .slice a9_5 (((Clock.access cc (l[i])).1).frames).length c9_5]) rfl rfl rfl sz59 rfl rfl rfl rfl ?_
          refine o_nil ?_
          refine h_next (fun _ hw => HeapIs.drop hw (List.Sublist.cons_cons _ (List.Sublist.cons_cons _ (List.Sublist.cons_cons _ (List.Sublist.cons_cons _ (List.Sublist.cons_cons _ (List.Sublist.cons_cons _ (List.Sublist.cons _ (List.Sublist.cons _ (List.Sublist.cons_cons _ (List.Sublist.slnil))))))))))) ?_
          refine h_one (i := 3) (ls := #[true, true, true, true]) (by kernel_rfl) rfl rfl ?_
          refine o_storeN (i := 6) (vs := [.int .i64 (((Lru.access dd (l[i])).1).room), .slice a12_5 (((Lru.access dd (l[i])).1).keys).length c12_5]) (cs' := [.int .i64 (((Lru.access dd (l[i])).1).room), .slice a12_5 (((Lru.access dd (l[i])).1).keys).length c12_5]) rfl rfl rfl sz95 rfl rfl rfl rfl ?_
          refine o_nil ?_
          refine h_next (fun _ hw => HeapIs.drop hw (List.Sublist.cons_cons _ (List.Sublist.cons_cons _ (List.Sublist.cons_cons _ (List.Sublist.cons_cons _ (List.Sublist.cons_cons _ (List.Sublist.cons_cons _ (List.Sublist.cons _ (List.Sublist.cons _ (List.Sublist.cons_cons _ (List.Sublist.slnil))))))))))) ?_
          refine h_done (by kernel_rfl) ?_
          refine q_block_normal (q_then ?_)
          refine c_region ?_
          refine o_pure (p_move (v := .int .i64 (i : Int)) rfl) rfl rfl rfl ?_
          refine o_pure (p_addb (p := (i : Int)) (q := 1) rfl rfl (by omega)) rfl rfl rfl ?_
          refine o_pure (p_assign (v := .int .i64 ((i : Int) + 1)) rfl) rfl rfl rfl ?_
          refine o_nil ?_
          refine q_heap (H' := [box B12_11 [.int .i64 (((Lru.access dd (l[i])).1).room), .slice a12_5 (((Lru.access dd (l[i])).1).keys).length c12_5] 95, own tInt S12_5 a12_5 c12_5 (((Lru.access dd (l[i])).1).keys), box B9_11 [.int .i64 (((Clock.access cc (l[i])).1).room), .int .i64 (((Clock.access cc (l[i])).1).hand), .slice a9_5 (((Clock.access cc (l[i])).1).frames).length c9_5] 59, loose tFrame (False) S9_5 a9_5 c9_5 (((Clock.access cc (l[i])).1).frames), loose tInt (False) Sdd_0 add_0 cdd_0 dd.keys, loose tFrame (False) Scc_0 acc_0 ccc_0 cc.frames, box B2 [.int .i64 (((Lru.access dd (l[i])).1).room), .slice a12_5 (((Lru.access dd (l[i])).1).keys).length c12_5] 95, box B1 [.int .i64 (((Clock.access cc (l[i])).1).room), .int .i64 (((Clock.access cc (l[i])).1).hand), .slice a9_5 (((Clock.access cc (l[i])).1).frames).length c9_5] 59, base w0]) (fun w hw => HeapIs.toLoose (i := 3) (T := tFrame) rfl hw) ?_
          refine q_heap (H' := [box B12_11 [.int .i64 (((Lru.access dd (l[i])).1).room), .slice a12_5 (((Lru.access dd (l[i])).1).keys).length c12_5] 95, loose tInt (False) S12_5 a12_5 c12_5 (((Lru.access dd (l[i])).1).keys), box B9_11 [.int .i64 (((Clock.access cc (l[i])).1).room), .int .i64 (((Clock.access cc (l[i])).1).hand), .slice a9_5 (((Clock.access cc (l[i])).1).frames).length c9_5] 59, loose tFrame (False) S9_5 a9_5 c9_5 (((Clock.access cc (l[i])).1).frames), loose tInt (False) Sdd_0 add_0 cdd_0 dd.keys, loose tFrame (False) Scc_0 acc_0 ccc_0 cc.frames, box B2 [.int .i64 (((Lru.access dd (l[i])).1).room), .slice a12_5 (((Lru.access dd (l[i])).1).keys).length c12_5] 95, box B1 [.int .i64 (((Clock.access cc (l[i])).1).room), .int .i64 (((Clock.access cc (l[i])).1).hand), .slice a9_5 (((Clock.access cc (l[i])).1).frames).length c9_5] 59, base w0]) (fun w hw => HeapIs.toLoose (i := 1) (T := tInt) rfl hw) ?_
          refine q_round hK5 (i + 1, ((Clock.access cc (l[i])).1), a9_5, c9_5, S9_5, ((Lru.access dd (l[i])).1), a12_5, c12_5, S12_5) ?_ ?_ ?_ ?_
          · clear hK5
            exact ⟨by omega, hst.2.2.2⟩
          · (try dsimp only); omega
          · exact Sub.cons rfl (Sub.cons rfl (Sub.cons rfl (Sub.cons rfl (Sub.nil _))))
          · exact fun _ hw => HeapIs.pick hw [1, 3, 6, 7, 8] (by decide) rfl
  · simp only [Bool.and_eq_false_iff, decide_eq_false_iff_not, Int.not_lt] at hc7
    refine c_exit ?_
    refine q_then_exit (q_then_exit (q_block_exit (q_then ?_)))
    refine c_seq ?_
    refine c_region ?_
    refine o_pure (p_assign (v := .bool true) rfl) rfl rfl rfl ?_
    refine o_nil ?_
    refine q_then ?_
    refine c_ret ?_
    refine q_end0 (v := .bool true) (rt1 rfl (r_tmp rfl)) (i := 4) rfl ?_
    exact rfl
end Go.Proofs.Ythbfdhphnofacab
