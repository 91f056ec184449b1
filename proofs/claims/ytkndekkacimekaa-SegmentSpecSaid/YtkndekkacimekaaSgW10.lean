/- The walks, printed by a program from the translation and a specification. -/
import Derived.Test.YtkndekkacimekaaSgF
import Derived.Test.YtkndekkacimekaaSgLaw
import Derived.Test.YtkndekkacimekaaSgW9
namespace Go.Proofs.Ytkndekkacimekaa
open Go.Sx Go.RowKit
set_option maxHeartbeats 8000000 in
set_option maxRecDepth 100000 in
theorem rsrun_ok (h : DHalls) (ah_0 : Option Addr) (ch_0 : Nat) (ah_1 : Option Addr) (ch_1 : Nat) (l : List Int) (al : Option Addr) (cl : Nat) (hy1 : Seg.Ok h ∧ ∀ x ∈ l, Lru.okKey x = true) : FnM Try.prog 39 [.agg #[.int .i64 h.first, .int .i64 h.second, .slice ah_0 h.young.length ch_0, .slice ah_1 h.old.length ch_1], .slice al l.length cl] (fun w => Rd tInt w ah_0 ch_0 h.young ∧ Rd tInt w ah_1 ch_1 h.old ∧ Rd tInt w al cl l) (Option Addr × Nat × Option Addr × Nat) (fun p => .tuple #[.agg #[.int .i64 (((Seg.runGo h 0 l).1).first), .int .i64 (((Seg.runGo h 0 l).1).second), .slice p.1 (((Seg.runGo h 0 l).1).young).length p.2.1, .slice p.2.2.1 (((Seg.runGo h 0 l).1).old).length p.2.2.2], .int .i64 ((Seg.runGo h 0 l).2)]) (fun p S w => (SlR tInt S w p.1 p.2.1 (((Seg.runGo h 0 l).1).young) ∨ (p.1 = ah_0 ∧ p.2.1 = ch_0 ∧ (((Seg.runGo h 0 l).1).young) = h.young)) ∧ (SlR tInt S w p.2.2.1 p.2.2.2 (((Seg.runGo h 0 l).1).old) ∨ (p.2.2.1 = ah_1 ∧ p.2.2.2 = ch_1 ∧ (((Seg.runGo h 0 l).1).old) = h.old))) := by
  refine fnM (nt := 33) (F0 := [(0, .agg #[.int .i64 h.first, .int .i64 h.second, .slice ah_0 h.young.length ch_0, .slice ah_1 h.old.length ch_1]), (1, .slice al l.length cl)]) Try.func39 rfl Try.ntmps39 rfl rfl (fun w0 hpre => ?_)
  obtain ⟨hh_0, hh_1, hl⟩ := hpre
  have hlhh_0 := hh_0.2.1
  have hlhh_1 := hh_1.2.1
  have hlhl := hl.2.1
  refine c_seq ?_
  refine c_region ?_
  refine o_box (v := .agg #[.int .i64 h.first, .int .i64 h.second, .slice ah_0 h.young.length ch_0, .slice ah_1 h.old.length ch_1]) rfl rfl (fun B1 => ?_)
  refine o_alloc ze58 rfl (fun B2 => ?_)
  refine o_pure (p_assign (v := .int .i64 0) rfl) rfl rfl rfl ?_
  refine o_nil ?_
  refine q_then ?_
  refine c_seq ?_
  refine c_region ?_
  refine o_pure (p_assign (v := .int .i64 0) rfl) rfl rfl rfl ?_
  refine o_nil ?_
  refine q_then ?_
  refine c_seq ?_
  refine c_seq ?_
  refine c_region ?_
  refine o_pure (p_assign (v := .int .i64 0) rfl) rfl rfl rfl ?_
  refine o_nil ?_
  refine q_then ?_
  refine c_block ?_
  refine c_heap (H' := [loose tInt (ah_0 = ah_0 ∧ ch_0 = ch_0 ∧ h.young = h.young) (fun _ => False) ah_0 ch_0 h.young, box B2 [.int .i64 0, .int .i64 0, .slice none 0 0, .slice none 0 0] 58, box B1 [.int .i64 h.first, .int .i64 h.second, .slice ah_0 h.young.length ch_0, .slice ah_1 h.old.length ch_1] 58, base w0]) (fun w hw => HeapIs.looseOf ⟨rfl, rfl, rfl⟩ hw) ?_
  refine c_heap (H' := [loose tInt (ah_1 = ah_1 ∧ ch_1 = ch_1 ∧ h.old = h.old) (fun _ => False) ah_1 ch_1 h.old, loose tInt (ah_0 = ah_0 ∧ ch_0 = ch_0 ∧ h.young = h.young) (fun _ => False) ah_0 ch_0 h.young, box B2 [.int .i64 0, .int .i64 0, .slice none 0 0, .slice none 0 0] 58, box B1 [.int .i64 h.first, .int .i64 h.second, .slice ah_0 h.young.length ch_0, .slice ah_1 h.old.length ch_1] 58, base w0]) (fun w hw => HeapIs.looseOf ⟨rfl, rfl, rfl⟩ hw) ?_
  refine c_loop (St := Int × Nat × DHalls × Option Addr × Nat × (Nat → Prop) × Option Addr × Nat × (Nat → Prop))
    (fun ⟨hits, i, cc, acc_0, ccc_0, Scc_0, acc_1, ccc_1, Scc_1⟩ => [(1, .slice al l.length cl), (2, .pointer (some ⟨B1, 0, none⟩)), (4, .pointer (some ⟨B2, 0, none⟩)), (6, .int .i64 hits), (7, .int .i64 (i : Int))])
    (fun ⟨hits, i, cc, acc_0, ccc_0, Scc_0, acc_1, ccc_1, Scc_1⟩ => [loose tInt (acc_1 = ah_1 ∧ ccc_1 = ch_1 ∧ cc.old = h.old) Scc_1 acc_1 ccc_1 cc.old, loose tInt (acc_0 = ah_0 ∧ ccc_0 = ch_0 ∧ cc.young = h.young) Scc_0 acc_0 ccc_0 cc.young, box B2 [.int .i64 0, .int .i64 0, .slice none 0 0, .slice none 0 0] 58, box B1 [.int .i64 cc.first, .int .i64 cc.second, .slice acc_0 cc.young.length ccc_0, .slice acc_1 cc.old.length ccc_1] 58, base w0])
    (fun ⟨hits, i, cc, acc_0, ccc_0, Scc_0, acc_1, ccc_1, Scc_1⟩ => Seg.RInv h cc l hits i)
    (fun ⟨hits, i, cc, acc_0, ccc_0, Scc_0, acc_1, ccc_1, Scc_1⟩ => l.length - i)
    (0, 0, h, ah_0, ch_0, (fun _ => False), ah_1, ch_1, (fun _ => False)) ?_ (Sub.cons rfl (Sub.cons rfl (Sub.cons rfl (Sub.cons rfl (Sub.cons rfl (Sub.nil _)))))) (fun _ hw => hw) ?_
  · exact Seg.RInv.start hy1.1 hy1.2
  rintro ⟨hits, i, cc, acc_0, ccc_0, Scc_0, acc_1, ccc_1, Scc_1⟩ hI K hK5
  have hn0 := hI.n0
  have hn1 := hI.n1
  show SC _ _ Try.prog 33 w0 _ _ [(1, .slice al l.length cl), (2, .pointer (some ⟨B1, 0, none⟩)), (4, .pointer (some ⟨B2, 0, none⟩)), (6, .int .i64 hits), (7, .int .i64 (i : Int))] [loose tInt (acc_1 = ah_1 ∧ ccc_1 = ch_1 ∧ cc.old = h.old) Scc_1 acc_1 ccc_1 cc.old, loose tInt (acc_0 = ah_0 ∧ ccc_0 = ch_0 ∧ cc.young = h.young) Scc_0 acc_0 ccc_0 cc.young, box B2 [.int .i64 0, .int .i64 0, .slice none 0 0, .slice none 0 0] 58, box B1 [.int .i64 cc.first, .int .i64 cc.second, .slice acc_0 cc.young.length ccc_0, .slice acc_1 cc.old.length ccc_1] 58, base w0]
  refine c_seq ?_
  refine c_seq ?_
  refine c_region ?_
  refine o_pure (p_move (v := .int .i64 (i : Int)) rfl) rfl rfl rfl ?_
  refine o_pure (p_move (v := .slice al l.length cl) rfl) rfl rfl rfl ?_
  refine o_pure (p_len_slice (len := l.length) rfl rfl Try.underlying30) rfl rfl rfl ?_
  refine o_pure (p_lt (p := (i : Int)) (q := (l.length : Int)) rfl rfl) rfl rfl rfl ?_
  refine o_nil ?_
  refine q_then ?_
  refine c_cond (b := decide ((i : Int) < (l.length : Int))) rfl (fun hc6 => ?_) (fun hc6 => ?_)
  · simp only [decide_eq_true_eq] at hc6
    refine c_skip ?_
    refine q_then ?_
    refine c_seq ?_
    refine c_block ?_
    refine c_seq ?_
    refine c_cut (G := Option Addr × Nat × (Nat → Prop) × Option Addr × Nat × (Nat → Prop) × Option Addr × Nat × (Nat → Prop) × Nat) (fun ⟨a7_5, c7_5, S7_5, a7_5_1, c7_5_1, S7_5_1, a7_5_2, c7_5_2, S7_5_2, B7_10⟩ => [(1, .slice al l.length cl), (2, .pointer (some ⟨B1, 0, none⟩)), (4, .pointer (some ⟨B2, 0, none⟩)), (6, .int .i64 hits), (7, .int .i64 (i : Int)), (8, .pointer (some ⟨B7_10, 0, none⟩)), (9, .bool ((Seg.touch cc (l[i])).2.1))]) (fun ⟨a7_5, c7_5, S7_5, a7_5_1, c7_5_1, S7_5_1, a7_5_2, c7_5_2, S7_5_2, B7_10⟩ => [box B7_10 [.int .i64 (((Seg.touch cc (l[i])).1).first), .int .i64 (((Seg.touch cc (l[i])).1).second), .slice a7_5 (((Seg.touch cc (l[i])).1).young).length c7_5, .slice a7_5_1 (((Seg.touch cc (l[i])).1).old).length c7_5_1] 58, own tInt S7_5 a7_5 c7_5 (((Seg.touch cc (l[i])).1).young), own tInt S7_5_1 a7_5_1 c7_5_1 (((Seg.touch cc (l[i])).1).old), own tInt S7_5_2 a7_5_2 c7_5_2 ((Seg.touch cc (l[i])).2.2), loose tInt (acc_1 = ah_1 ∧ ccc_1 = ch_1 ∧ cc.old = h.old) Scc_1 acc_1 ccc_1 cc.old, loose tInt (acc_0 = ah_0 ∧ ccc_0 = ch_0 ∧ cc.young = h.young) Scc_0 acc_0 ccc_0 cc.young, box B2 [.int .i64 0, .int .i64 0, .slice none 0 0, .slice none 0 0] 58, box B1 [.int .i64 cc.first, .int .i64 cc.second, .slice acc_0 cc.young.length ccc_0, .slice acc_1 cc.old.length ccc_1] 58, base w0]) (fun K hK8 => ?_) ?_
    · refine c_held hmix [loose tInt (acc_1 = ah_1 ∧ ccc_1 = ch_1 ∧ cc.old = h.old) Scc_1 acc_1 ccc_1 cc.old, loose tInt (acc_0 = ah_0 ∧ ccc_0 = ch_0 ∧ cc.young = h.young) Scc_0 acc_0 ccc_0 cc.young, box B2 [.int .i64 0, .int .i64 0, .slice none 0 0, .slice none 0 0] 58, box B1 [.int .i64 cc.first, .int .i64 cc.second, .slice acc_0 cc.young.length ccc_0, .slice acc_1 cc.old.length ccc_1] 58, base w0] rfl rfl ?_
      refine h_take (i := 0) (ls := #[true, false, false, false, false, false, false, false, false, false, false, false, false, false]) rfl (by kernel_rfl) (by kernel_rfl) (by kernel_rfl) (fun _ _ _ h => h) (p_load_agg (i := 3) (vs := [.int .i64 cc.first, .int .i64 cc.second, .slice acc_0 cc.young.length ccc_0, .slice acc_1 cc.old.length ccc_1]) rfl rfl sh58 rfl rfl) rfl rfl rfl (fun _ hw => HeapIs.drop hw (List.Sublist.refl _)) rfl ?_
      refine h_take (i := 1) (ls := #[true, true, false, false, false, false, false, false, false, false, false, false, false, false]) rfl (by kernel_rfl) (by kernel_rfl) (by kernel_rfl) (fun _ _ _ h => h) (p_move (v := .slice al l.length cl) rfl) rfl rfl rfl (fun _ hw => HeapIs.drop hw (List.Sublist.refl _)) rfl ?_
      refine h_take (i := 2) (ls := #[true, true, true, false, false, false, false, false, false, false, false, false, false, false]) rfl (by kernel_rfl) (by kernel_rfl) (by kernel_rfl) (fun _ _ _ h => h) (p_move (v := .int .i64 (i : Int)) rfl) rfl rfl rfl (fun _ hw => HeapIs.drop hw (List.Sublist.refl _)) rfl ?_
      refine h_take (i := 3) (ls := #[true, true, true, true, false, false, false, false, false, false, false, false, false, false]) rfl (by kernel_rfl) (by kernel_rfl) (by kernel_rfl) (fun _ _ _ h => h) (p_indexAddr (L := l) (T := tInt) (i := (i : Int)) rfl rfl (rd_base (i := 4) rfl hl) Try.underlying30 sz3 (by omega) (by omega)) rfl rfl rfl (fun _ hw => HeapIs.drop hw (List.Sublist.refl _)) rfl ?_
      refine h_take (i := 4) (ls := #[true, true, true, true, true, false, false, false, false, false, false, false, false, false]) rfl (by kernel_rfl) (by kernel_rfl) (by kernel_rfl) (fun _ _ _ h => h) (p_loadE1 (i := i) (T := tInt) (L := l) (v := .int .i64 (l[i])) rfl (rd_base (i := 4) rfl hl) (by first | assumption | omega) sh3 rfl) rfl rfl rfl (fun _ hw => HeapIs.drop hw (List.Sublist.refl _)) rfl ?_
      refine h_two (i := 5) (j := 10) (ls := #[true, true, true, true, true, true, false, false, false, false, false, false, false, false]) (ls' := #[true, true, true, true, true, false, false, false, false, false, true, false, false, false]) (by kernel_rfl) rfl rfl rfl rfl ?_ ?_
      · refine o_callX (pre := []) (R := [loose tInt (acc_1 = ah_1 ∧ ccc_1 = ch_1 ∧ cc.old = h.old) Scc_1 acc_1 ccc_1 cc.old, loose tInt (acc_0 = ah_0 ∧ ccc_0 = ch_0 ∧ cc.young = h.young) Scc_0 acc_0 ccc_0 cc.young, box B2 [.int .i64 0, .int .i64 0, .slice none 0 0, .slice none 0 0] 58, box B1 [.int .i64 cc.first, .int .i64 cc.second, .slice acc_0 cc.young.length ccc_0, .slice acc_1 cc.old.length ccc_1] 58, base w0]) rfl (rstouch_ok cc acc_0 ccc_0 acc_1 ccc_1 (l[i]) (by first | assumption | exact ⟨hok, hkey⟩ | exact ⟨hI.ok, hI.key _ (List.getElem_mem (by omega))⟩)) hf37 rfl (fun w hw => ⟨(rdX_loose (i := 1) (js := []) rfl (by decide) rfl (fun hφ => by obtain ⟨h1, h2, h3⟩ := hφ; rw [h1, h2, h3]; exact (rdX (i := 4) (js := []) rfl (by decide) rfl (fun _ hA => slR_base hh_0 hA)))) w hw, (rdX_loose (i := 0) (js := []) rfl (by decide) rfl (fun hφ => by obtain ⟨h1, h2, h3⟩ := hφ; rw [h1, h2, h3]; exact (rdX (i := 4) (js := []) rfl (by decide) rfl (fun _ hA => slR_base hh_1 hA)))) w hw⟩) rfl ?_
        rintro ⟨a7_5, c7_5, S7_5, a7_5_1, c7_5_1, S7_5_1, a7_5_2, c7_5_2, S7_5_2⟩
        refine o_asH (H' := [own tInt S7_5 a7_5 c7_5 (((Seg.touch cc (l[i])).1).young), own tInt S7_5_1 a7_5_1 c7_5_1 (((Seg.touch cc (l[i])).1).old), own tInt S7_5_2 a7_5_2 c7_5_2 ((Seg.touch cc (l[i])).2.2), loose tInt (acc_1 = ah_1 ∧ ccc_1 = ch_1 ∧ cc.old = h.old) Scc_1 acc_1 ccc_1 cc.old, loose tInt (acc_0 = ah_0 ∧ ccc_0 = ch_0 ∧ cc.young = h.young) Scc_0 acc_0 ccc_0 cc.young, box B2 [.int .i64 0, .int .i64 0, .slice none 0 0, .slice none 0 0] 58, box B1 [.int .i64 cc.first, .int .i64 cc.second, .slice acc_0 cc.young.length ccc_0, .slice acc_1 cc.old.length ccc_1] 58, base w0]) rfl ?_
        refine o_nil ?_
        refine h_next (fun _ hw => HeapIs.drop hw (List.Sublist.cons _ (List.Sublist.cons _ (List.Sublist.cons _ (List.Sublist.cons_cons _ (List.Sublist.cons_cons _ (List.Sublist.cons_cons _ (List.Sublist.cons_cons _ (List.Sublist.cons_cons _ (List.Sublist.slnil)))))))))) ?_
        refine h_take (i := 6) (ls := #[true, true, true, true, true, true, true, false, false, false, false, false, false, false]) rfl (by kernel_rfl) (by kernel_rfl) (by kernel_rfl) (fun _ _ _ h => h) (p_move (v := .tuple #[.agg #[.int .i64 (((Seg.touch cc (l[i])).1).first), .int .i64 (((Seg.touch cc (l[i])).1).second), .slice a7_5 (((Seg.touch cc (l[i])).1).young).length c7_5, .slice a7_5_1 (((Seg.touch cc (l[i])).1).old).length c7_5_1], .bool ((Seg.touch cc (l[i])).2.1), .slice a7_5_2 ((Seg.touch cc (l[i])).2.2).length c7_5_2]) rfl) rfl rfl rfl (fun _ hw => HeapIs.drop hw (List.Sublist.cons _ (List.Sublist.cons _ (List.Sublist.cons _ (List.Sublist.cons_cons _ (List.Sublist.cons_cons _ (List.Sublist.cons_cons _ (List.Sublist.cons_cons _ (List.Sublist.cons_cons _ (List.Sublist.slnil)))))))))) rfl ?_
        refine h_take (i := 7) (ls := #[true, true, true, true, true, true, true, true, false, false, false, false, false, false]) rfl (by kernel_rfl) (by kernel_rfl) (by kernel_rfl) (fun _ _ _ h => h) (p_extract (vs := [.agg #[.int .i64 (((Seg.touch cc (l[i])).1).first), .int .i64 (((Seg.touch cc (l[i])).1).second), .slice a7_5 (((Seg.touch cc (l[i])).1).young).length c7_5, .slice a7_5_1 (((Seg.touch cc (l[i])).1).old).length c7_5_1], .bool ((Seg.touch cc (l[i])).2.1), .slice a7_5_2 ((Seg.touch cc (l[i])).2.2).length c7_5_2]) (v := .agg #[.int .i64 (((Seg.touch cc (l[i])).1).first), .int .i64 (((Seg.touch cc (l[i])).1).second), .slice a7_5 (((Seg.touch cc (l[i])).1).young).length c7_5, .slice a7_5_1 (((Seg.touch cc (l[i])).1).old).length c7_5_1]) rfl rfl) rfl rfl rfl (fun _ hw => HeapIs.drop hw (List.Sublist.cons _ (List.Sublist.cons _ (List.Sublist.cons _ (List.Sublist.cons_cons _ (List.Sublist.cons_cons _ (List.Sublist.cons_cons _ (List.Sublist.cons_cons _ (List.Sublist.cons_cons _ (List.Sublist.slnil)))))))))) rfl ?_
        refine h_take (i := 8) (ls := #[true, true, true, true, true, true, true, true, true, false, false, false, false, false]) rfl (by kernel_rfl) (by kernel_rfl) (by kernel_rfl) (fun _ _ _ h => h) (p_extract (vs := [.agg #[.int .i64 (((Seg.touch cc (l[i])).1).first), .int .i64 (((Seg.touch cc (l[i])).1).second), .slice a7_5 (((Seg.touch cc (l[i])).1).young).length c7_5, .slice a7_5_1 (((Seg.touch cc (l[i])).1).old).length c7_5_1], .bool ((Seg.touch cc (l[i])).2.1), .slice a7_5_2 ((Seg.touch cc (l[i])).2.2).length c7_5_2]) (v := .bool ((Seg.touch cc (l[i])).2.1)) rfl rfl) rfl rfl rfl (fun _ hw => HeapIs.drop hw (List.Sublist.cons _ (List.Sublist.cons _ (List.Sublist.cons _ (List.Sublist.cons_cons _ (List.Sublist.cons_cons _ (List.Sublist.cons_cons _ (List.Sublist.cons_cons _ (List.Sublist.cons_cons _ (List.Sublist.slnil)))))))))) rfl ?_
        refine h_take (i := 9) (ls := #[true, true, true, true, true, true, true, true, true, true, false, false, false, false]) rfl (by kernel_rfl) (by kernel_rfl) (by kernel_rfl) (fun _ _ _ h => h) (p_extract (vs := [.agg #[.int .i64 (((Seg.touch cc (l[i])).1).first), .int .i64 (((Seg.touch cc (l[i])).1).second), .slice a7_5 (((Seg.touch cc (l[i])).1).young).length c7_5, .slice a7_5_1 (((Seg.touch cc (l[i])).1).old).length c7_5_1], .bool ((Seg.touch cc (l[i])).2.1), .slice a7_5_2 ((Seg.touch cc (l[i])).2.2).length c7_5_2]) (v := .slice a7_5_2 ((Seg.touch cc (l[i])).2.2).length c7_5_2) rfl rfl) rfl rfl rfl (fun _ hw => HeapIs.drop hw (List.Sublist.cons _ (List.Sublist.cons _ (List.Sublist.cons _ (List.Sublist.cons_cons _ (List.Sublist.cons_cons _ (List.Sublist.cons_cons _ (List.Sublist.cons_cons _ (List.Sublist.cons_cons _ (List.Sublist.slnil)))))))))) rfl ?_
        refine h_one (i := 10) (ls := #[true, true, true, true, true, true, true, true, true, true, true, false, false, false]) (by kernel_rfl) rfl rfl ?_
        refine o_alloc ze58 rfl (fun B7_10 => ?_)
        refine o_nil ?_
        refine h_next (fun _ hw => HeapIs.drop hw (List.Sublist.cons _ (List.Sublist.cons _ (List.Sublist.cons _ (List.Sublist.cons _ (List.Sublist.cons_cons _ (List.Sublist.cons_cons _ (List.Sublist.cons_cons _ (List.Sublist.cons_cons _ (List.Sublist.cons_cons _ (List.Sublist.slnil))))))))))) ?_
        refine h_one (i := 11) (ls := #[true, true, true, true, true, true, true, true, true, true, true, true, false, false]) (by kernel_rfl) rfl rfl ?_
        refine o_storeN (i := 0) (vs := [.int .i64 (((Seg.touch cc (l[i])).1).first), .int .i64 (((Seg.touch cc (l[i])).1).second), .slice a7_5 (((Seg.touch cc (l[i])).1).young).length c7_5, .slice a7_5_1 (((Seg.touch cc (l[i])).1).old).length c7_5_1]) (cs' := [.int .i64 (((Seg.touch cc (l[i])).1).first), .int .i64 (((Seg.touch cc (l[i])).1).second), .slice a7_5 (((Seg.touch cc (l[i])).1).young).length c7_5, .slice a7_5_1 (((Seg.touch cc (l[i])).1).old).length c7_5_1]) rfl rfl rfl sz58 rfl rfl rfl rfl ?_
        refine o_nil ?_
        refine h_next (fun _ hw => HeapIs.drop hw (List.Sublist.cons _ (List.Sublist.cons _ (List.Sublist.cons _ (List.Sublist.cons _ (List.Sublist.cons_cons _ (List.Sublist.cons_cons _ (List.Sublist.cons_cons _ (List.Sublist.cons_cons _ (List.Sublist.cons_cons _ (List.Sublist.slnil))))))))))) ?_
        refine h_take (i := 12) (ls := #[true, true, true, true, true, true, true, true, true, true, true, true, true, false]) rfl (by kernel_rfl) (by kernel_rfl) (by kernel_rfl) (fun _ _ _ h => h) (p_assign (v := .bool ((Seg.touch cc (l[i])).2.1)) rfl) rfl rfl rfl (fun _ hw => HeapIs.drop hw (List.Sublist.cons _ (List.Sublist.cons _ (List.Sublist.cons _ (List.Sublist.cons _ (List.Sublist.cons_cons _ (List.Sublist.cons_cons _ (List.Sublist.cons_cons _ (List.Sublist.cons_cons _ (List.Sublist.cons_cons _ (List.Sublist.slnil))))))))))) rfl ?_
        refine h_take (i := 13) (ls := #[true, true, true, true, true, true, true, true, true, true, true, true, true, true]) rfl (by kernel_rfl) (by kernel_rfl) (by kernel_rfl) (fun _ _ _ h => h) (p_assign (v := .slice a7_5_2 ((Seg.touch cc (l[i])).2.2).length c7_5_2) rfl) rfl rfl rfl (fun _ hw => HeapIs.drop hw (List.Sublist.cons _ (List.Sublist.cons _ (List.Sublist.cons _ (List.Sublist.cons _ (List.Sublist.cons_cons _ (List.Sublist.cons_cons _ (List.Sublist.cons_cons _ (List.Sublist.cons_cons _ (List.Sublist.cons_cons _ (List.Sublist.slnil))))))))))) rfl ?_
        refine h_done (by kernel_rfl) ?_
        refine q_kont hK8 (a7_5, c7_5, S7_5, a7_5_1, c7_5_1, S7_5_1, a7_5_2, c7_5_2, S7_5_2, B7_10) (Sub.cons rfl (Sub.cons rfl (Sub.cons rfl (Sub.cons rfl (Sub.cons rfl (Sub.cons rfl (Sub.cons rfl (Sub.nil _)))))))) (fun _ hw => HeapIs.pick hw [0, 1, 2, 3, 4, 5, 6, 7, 8] (by decide) rfl)
      · refine o_alloc ze58 rfl (fun B7_10 => ?_)
        refine o_nil ?_
        refine h_next (fun _ hw => HeapIs.drop hw (List.Sublist.cons _ (List.Sublist.cons_cons _ (List.Sublist.cons_cons _ (List.Sublist.cons_cons _ (List.Sublist.cons_cons _ (List.Sublist.cons_cons _ (List.Sublist.slnil)))))))) ?_
        refine h_one (i := 5) (ls := #[true, true, true, true, true, true, false, false, false, false, true, false, false, false]) (by kernel_rfl) rfl rfl ?_
        refine o_callX (pre := []) (R := [box B7_10 [.int .i64 0, .int .i64 0, .slice none 0 0, .slice none 0 0] 58, loose tInt (acc_1 = ah_1 ∧ ccc_1 = ch_1 ∧ cc.old = h.old) Scc_1 acc_1 ccc_1 cc.old, loose tInt (acc_0 = ah_0 ∧ ccc_0 = ch_0 ∧ cc.young = h.young) Scc_0 acc_0 ccc_0 cc.young, box B2 [.int .i64 0, .int .i64 0, .slice none 0 0, .slice none 0 0] 58, box B1 [.int .i64 cc.first, .int .i64 cc.second, .slice acc_0 cc.young.length ccc_0, .slice acc_1 cc.old.length ccc_1] 58, base w0]) rfl (rstouch_ok cc acc_0 ccc_0 acc_1 ccc_1 (l[i]) (by first | assumption | exact ⟨hok, hkey⟩ | exact ⟨hI.ok, hI.key _ (List.getElem_mem (by omega))⟩)) hf37 rfl (fun w hw => ⟨(rdX_loose (i := 2) (js := []) rfl (by decide) rfl (fun hφ => by obtain ⟨h1, h2, h3⟩ := hφ; rw [h1, h2, h3]; exact (rdX (i := 5) (js := []) rfl (by decide) rfl (fun _ hA => slR_base hh_0 hA)))) w hw, (rdX_loose (i := 1) (js := []) rfl (by decide) rfl (fun hφ => by obtain ⟨h1, h2, h3⟩ := hφ; rw [h1, h2, h3]; exact (rdX (i := 5) (js := []) rfl (by decide) rfl (fun _ hA => slR_base hh_1 hA)))) w hw⟩) rfl ?_
        rintro ⟨a7_5, c7_5, S7_5, a7_5_1, c7_5_1, S7_5_1, a7_5_2, c7_5_2, S7_5_2⟩
        refine o_asH (H' := [own tInt S7_5 a7_5 c7_5 (((Seg.touch cc (l[i])).1).young), own tInt S7_5_1 a7_5_1 c7_5_1 (((Seg.touch cc (l[i])).1).old), own tInt S7_5_2 a7_5_2 c7_5_2 ((Seg.touch cc (l[i])).2.2), box B7_10 [.int .i64 0, .int .i64 0, .slice none 0 0, .slice none 0 0] 58, loose tInt (acc_1 = ah_1 ∧ ccc_1 = ch_1 ∧ cc.old = h.old) Scc_1 acc_1 ccc_1 cc.old, loose tInt (acc_0 = ah_0 ∧ ccc_0 = ch_0 ∧ cc.young = h.young) Scc_0 acc_0 ccc_0 cc.young, box B2 [.int .i64 0, .int .i64 0, .slice none 0 0, .slice none 0 0] 58, box B1 [.int .i64 cc.first, .int .i64 cc.second, .slice acc_0 cc.young.length ccc_0, .slice acc_1 cc.old.length ccc_1] 58, base w0]) rfl ?_
        refine o_nil ?_
        refine h_next (fun _ hw => HeapIs.drop hw (List.Sublist.cons _ (List.Sublist.cons _ (List.Sublist.cons _ (List.Sublist.cons _ (List.Sublist.cons_cons _ (List.Sublist.cons_cons _ (List.Sublist.cons_cons _ (List.Sublist.cons_cons _ (List.Sublist.cons_cons _ (List.Sublist.slnil))))))))))) ?_
        refine h_take (i := 6) (ls := #[true, true, true, true, true, true, true, false, false, false, true, false, false, false]) rfl (by kernel_rfl) (by kernel_rfl) (by kernel_rfl) (fun _ _ _ h => h) (p_move (v := .tuple #[.agg #[.int .i64 (((Seg.touch cc (l[i])).1).first), .int .i64 (((Seg.touch cc (l[i])).1).second), .slice a7_5 (((Seg.touch cc (l[i])).1).young).length c7_5, .slice a7_5_1 (((Seg.touch cc (l[i])).1).old).length c7_5_1], .bool ((Seg.touch cc (l[i])).2.1), .slice a7_5_2 ((Seg.touch cc (l[i])).2.2).length c7_5_2]) rfl) rfl rfl rfl (fun _ hw => HeapIs.drop hw (List.Sublist.cons _ (List.Sublist.cons _ (List.Sublist.cons _ (List.Sublist.cons _ (List.Sublist.cons_cons _ (List.Sublist.cons_cons _ (List.Sublist.cons_cons _ (List.Sublist.cons_cons _ (List.Sublist.cons_cons _ (List.Sublist.slnil))))))))))) rfl ?_
        refine h_take (i := 7) (ls := #[true, true, true, true, true, true, true, true, false, false, true, false, false, false]) rfl (by kernel_rfl) (by kernel_rfl) (by kernel_rfl) (fun _ _ _ h => h) (p_extract (vs := [.agg #[.int .i64 (((Seg.touch cc (l[i])).1).first), .int .i64 (((Seg.touch cc (l[i])).1).second), .slice a7_5 (((Seg.touch cc (l[i])).1).young).length c7_5, .slice a7_5_1 (((Seg.touch cc (l[i])).1).old).length c7_5_1], .bool ((Seg.touch cc (l[i])).2.1), .slice a7_5_2 ((Seg.touch cc (l[i])).2.2).length c7_5_2]) (v := .agg #[.int .i64 (((Seg.touch cc (l[i])).1).first), .int .i64 (((Seg.touch cc (l[i])).1).second), .slice a7_5 (((Seg.touch cc (l[i])).1).young).length c7_5, .slice a7_5_1 (((Seg.touch cc (l[i])).1).old).length c7_5_1]) rfl rfl) rfl rfl rfl (fun _ hw => HeapIs.drop hw (List.Sublist.cons _ (List.Sublist.cons _ (List.Sublist.cons _ (List.Sublist.cons _ (List.Sublist.cons_cons _ (List.Sublist.cons_cons _ (List.Sublist.cons_cons _ (List.Sublist.cons_cons _ (List.Sublist.cons_cons _ (List.Sublist.slnil))))))))))) rfl ?_
        refine h_take (i := 8) (ls := #[true, true, true, true, true, true, true, true, true, false, true, false, false, false]) rfl (by kernel_rfl) (by kernel_rfl) (by kernel_rfl) (fun _ _ _ h => h) (p_extract (vs := [.agg #[.int .i64 (((Seg.touch cc (l[i])).1).first), .int .i64 (((Seg.touch cc (l[i])).1).second), .slice a7_5 (((Seg.touch cc (l[i])).1).young).length c7_5, .slice a7_5_1 (((Seg.touch cc (l[i])).1).old).length c7_5_1], .bool ((Seg.touch cc (l[i])).2.1), .slice a7_5_2 ((Seg.touch cc (l[i])).2.2).length c7_5_2]) (v := .bool ((Seg.touch cc (l[i])).2.1)) rfl rfl) rfl rfl rfl (fun _ hw => HeapIs.drop hw (List.Sublist.cons _ (List.Sublist.cons _ (List.Sublist.cons _ (List.Sublist.cons _ (List.Sublist.cons_cons _ (List.Sublist.cons_cons _ (List.Sublist.cons_cons _ (List.Sublist.cons_cons _ (List.Sublist.cons_cons _ (List.Sublist.slnil))))))))))) rfl ?_
        refine h_take (i := 9) (ls := #[true, true, true, true, true, true, true, true, true, true, true, false, false, false]) rfl (by kernel_rfl) (by kernel_rfl) (by kernel_rfl) (fun _ _ _ h => h) (p_extract (vs := [.agg #[.int .i64 (((Seg.touch cc (l[i])).1).first), .int .i64 (((Seg.touch cc (l[i])).1).second), .slice a7_5 (((Seg.touch cc (l[i])).1).young).length c7_5, .slice a7_5_1 (((Seg.touch cc (l[i])).1).old).length c7_5_1], .bool ((Seg.touch cc (l[i])).2.1), .slice a7_5_2 ((Seg.touch cc (l[i])).2.2).length c7_5_2]) (v := .slice a7_5_2 ((Seg.touch cc (l[i])).2.2).length c7_5_2) rfl rfl) rfl rfl rfl (fun _ hw => HeapIs.drop hw (List.Sublist.cons _ (List.Sublist.cons _ (List.Sublist.cons _ (List.Sublist.cons _ (List.Sublist.cons_cons _ (List.Sublist.cons_cons _ (List.Sublist.cons_cons _ (List.Sublist.cons_cons _ (List.Sublist.cons_cons _ (List.Sublist.slnil))))))))))) rfl ?_
        refine h_one (i := 11) (ls := #[true, true, true, true, true, true, true, true, true, true, true, true, false, false]) (by kernel_rfl) rfl rfl ?_
        refine o_storeN (i := 3) (vs := [.int .i64 (((Seg.touch cc (l[i])).1).first), .int .i64 (((Seg.touch cc (l[i])).1).second), .slice a7_5 (((Seg.touch cc (l[i])).1).young).length c7_5, .slice a7_5_1 (((Seg.touch cc (l[i])).1).old).length c7_5_1]) (cs' := [.int .i64 (((Seg.touch cc (l[i])).1).first), .int .i64 (((Seg.touch cc (l[i])).1).second), .slice a7_5 (((Seg.touch cc (l[i])).1).young).length c7_5, .slice a7_5_1 (((Seg.touch cc (l[i])).1).old).length c7_5_1]) rfl rfl rfl sz58 rfl rfl rfl rfl ?_
        refine o_nil ?_
        refine h_next (fun _ hw => HeapIs.drop hw (List.Sublist.cons _ (List.Sublist.cons _ (List.Sublist.cons _ (List.Sublist.cons _ (List.Sublist.cons_cons _ (List.Sublist.cons_cons _ (List.Sublist.cons_cons _ (List.Sublist.cons_cons _ (List.Sublist.cons_cons _ (List.Sublist.slnil))))))))))) ?_
        refine h_take (i := 12) (ls := #[true, true, true, true, true, true, true, true, true, true, true, true, true, false]) rfl (by kernel_rfl) (by kernel_rfl) (by kernel_rfl) (fun _ _ _ h => h) (p_assign (v := .bool ((Seg.touch cc (l[i])).2.1)) rfl) rfl rfl rfl (fun _ hw => HeapIs.drop hw (List.Sublist.cons _ (List.Sublist.cons _ (List.Sublist.cons _ (List.Sublist.cons _ (List.Sublist.cons_cons _ (List.Sublist.cons_cons _ (List.Sublist.cons_cons _ (List.Sublist.cons_cons _ (List.Sublist.cons_cons _ (List.Sublist.slnil))))))))))) rfl ?_
        refine h_take (i := 13) (ls := #[true, true, true, true, true, true, true, true, true, true, true, true, true, true]) rfl (by kernel_rfl) (by kernel_rfl) (by kernel_rfl) (fun _ _ _ h => h) (p_assign (v := .slice a7_5_2 ((Seg.touch cc (l[i])).2.2).length c7_5_2) rfl) rfl rfl rfl (fun _ hw => HeapIs.drop hw (List.Sublist.cons _ (List.Sublist.cons _ (List.Sublist.cons _ (List.Sublist.cons _ (List.Sublist.cons_cons _ (List.Sublist.cons_cons _ (List.Sublist.cons_cons _ (List.Sublist.cons_cons _ (List.Sublist.cons_cons _ (List.Sublist.slnil))))))))))) rfl ?_
        refine h_done (by kernel_rfl) ?_
        refine q_kont hK8 (a7_5, c7_5, S7_5, a7_5_1, c7_5_1, S7_5_1, a7_5_2, c7_5_2, S7_5_2, B7_10) (Sub.cons rfl (Sub.cons rfl (Sub.cons rfl (Sub.cons rfl (Sub.cons rfl (Sub.cons rfl (Sub.cons rfl (Sub.nil _)))))))) (fun _ hw => HeapIs.pick hw [3, 0, 1, 2, 4, 5, 6, 7, 8] (by decide) rfl)
    rintro ⟨a7_5, c7_5, S7_5, a7_5_1, c7_5_1, S7_5_1, a7_5_2, c7_5_2, S7_5_2, B7_10⟩
    show SQ _ 33 w0 _ _ [(1, .slice al l.length cl), (2, .pointer (some ⟨B1, 0, none⟩)), (4, .pointer (some ⟨B2, 0, none⟩)), (6, .int .i64 hits), (7, .int .i64 (i : Int)), (8, .pointer (some ⟨B7_10, 0, none⟩)), (9, .bool ((Seg.touch cc (l[i])).2.1))] [box B7_10 [.int .i64 (((Seg.touch cc (l[i])).1).first), .int .i64 (((Seg.touch cc (l[i])).1).second), .slice a7_5 (((Seg.touch cc (l[i])).1).young).length c7_5, .slice a7_5_1 (((Seg.touch cc (l[i])).1).old).length c7_5_1] 58, own tInt S7_5 a7_5 c7_5 (((Seg.touch cc (l[i])).1).young), own tInt S7_5_1 a7_5_1 c7_5_1 (((Seg.touch cc (l[i])).1).old), own tInt S7_5_2 a7_5_2 c7_5_2 ((Seg.touch cc (l[i])).2.2), loose tInt (acc_1 = ah_1 ∧ ccc_1 = ch_1 ∧ cc.old = h.old) Scc_1 acc_1 ccc_1 cc.old, loose tInt (acc_0 = ah_0 ∧ ccc_0 = ch_0 ∧ cc.young = h.young) Scc_0 acc_0 ccc_0 cc.young, box B2 [.int .i64 0, .int .i64 0, .slice none 0 0, .slice none 0 0] 58, box B1 [.int .i64 cc.first, .int .i64 cc.second, .slice acc_0 cc.young.length ccc_0, .slice acc_1 cc.old.length ccc_1] 58, base w0]
    refine q_know (fun w hw => own_len (i := 1) (T := tInt) hw rfl) (fun hlr9 => ?_)
    refine q_know (fun w hw => own_len (i := 2) (T := tInt) hw rfl) (fun hlr10 => ?_)
    refine q_then ?_
    refine c_seq ?_
    refine c_seq ?_
    refine c_region ?_
    refine o_pure (p_move (v := .bool ((Seg.touch cc (l[i])).2.1)) rfl) rfl rfl rfl ?_
    refine o_nil ?_
    refine q_then ?_
    refine c_cond (b := ((Seg.touch cc (l[i])).2.1)) rfl (fun hc11 => ?_) (fun hc11 => ?_)
    · skip
      refine c_region ?_
      refine o_pure (p_move (v := .int .i64 hits) rfl) rfl rfl rfl ?_
      refine o_pure (p_addb (p := hits) (q := 1) rfl rfl (by omega)) rfl rfl rfl ?_
      refine o_pure (p_assign (v := .int .i64 (hits + 1)) rfl) rfl rfl rfl ?_
      refine o_nil ?_
      refine q_then ?_
      refine c_region ?_
      refine o_pure (p_load_agg (i := 0) (vs := [.int .i64 (((Seg.touch cc (l[i])).1).first), .int .i64 (((Seg.touch cc (l[i])).1).second), .slice a7_5 (((Seg.touch cc (l[i])).1).young).length c7_5, .slice a7_5_1 (((Seg.touch cc (l[i])).1).old).length c7_5_1]) rfl rfl sh58 rfl rfl) rfl rfl rfl ?_
      refine o_storeN (i := 7) (vs := [.int .i64 (((Seg.touch cc (l[i])).1).first), .int .i64 (((Seg.touch cc (l[i])).1).second), .slice a7_5 (((Seg.touch cc (l[i])).1).young).length c7_5, .slice a7_5_1 (((Seg.touch cc (l[i])).1).old).length c7_5_1]) (cs' := [.int .i64 (((Seg.touch cc (l[i])).1).first), .int .i64 (((Seg.touch cc (l[i])).1).second), .slice a7_5 (((Seg.touch cc (l[i])).1).young).length c7_5, .slice a7_5_1 (((Seg.touch cc (l[i])).1).old).length c7_5_1]) rfl rfl rfl sz58 rfl rfl rfl rfl ?_
      refine o_nil ?_
      refine q_block_normal (q_then ?_)
      refine c_region ?_
      refine o_pure (p_move (v := .int .i64 (i : Int)) rfl) rfl rfl rfl ?_
      refine o_pure (p_addb (p := (i : Int)) (q := 1) rfl rfl (by omega)) rfl rfl rfl ?_
      refine o_pure (p_assign (v := .int .i64 ((i : Int) + 1)) rfl) rfl rfl rfl ?_
      refine o_nil ?_
      refine q_heap (H' := [box B7_10 [.int .i64 (((Seg.touch cc (l[i])).1).first), .int .i64 (((Seg.touch cc (l[i])).1).second), .slice a7_5 (((Seg.touch cc (l[i])).1).young).length c7_5, .slice a7_5_1 (((Seg.touch cc (l[i])).1).old).length c7_5_1] 58, loose tInt (a7_5 = ah_0 ∧ c7_5 = ch_0 ∧ (((Seg.touch cc (l[i])).1).young) = h.young) S7_5 a7_5 c7_5 (((Seg.touch cc (l[i])).1).young), own tInt S7_5_1 a7_5_1 c7_5_1 (((Seg.touch cc (l[i])).1).old), own tInt S7_5_2 a7_5_2 c7_5_2 ((Seg.touch cc (l[i])).2.2), loose tInt (acc_1 = ah_1 ∧ ccc_1 = ch_1 ∧ cc.old = h.old) Scc_1 acc_1 ccc_1 cc.old, loose tInt (acc_0 = ah_0 ∧ ccc_0 = ch_0 ∧ cc.young = h.young) Scc_0 acc_0 ccc_0 cc.young, box B2 [.int .i64 0, .int .i64 0, .slice none 0 0, .slice none 0 0] 58, box B1 [.int .i64 (((Seg.touch cc (l[i])).1).first), .int .i64 (((Seg.touch cc (l[i])).1).second), .slice a7_5 (((Seg.touch cc (l[i])).1).young).length c7_5, .slice a7_5_1 (((Seg.touch cc (l[i])).1).old).length c7_5_1] 58, base w0]) (fun w hw => HeapIs.toLoose (i := 1) (T := tInt) rfl hw) ?_
      refine q_heap (H' := [box B7_10 [.int .i64 (((Seg.touch cc (l[i])).1).first), .int .i64 (((Seg.touch cc (l[i])).1).second), .slice a7_5 (((Seg.touch cc (l[i])).1).young).length c7_5, .slice a7_5_1 (((Seg.touch cc (l[i])).1).old).length c7_5_1] 58, loose tInt (a7_5 = ah_0 ∧ c7_5 = ch_0 ∧ (((Seg.touch cc (l[i])).1).young) = h.young) S7_5 a7_5 c7_5 (((Seg.touch cc (l[i])).1).young), loose tInt (a7_5_1 = ah_1 ∧ c7_5_1 = ch_1 ∧ (((Seg.touch cc (l[i])).1).old) = h.old) S7_5_1 a7_5_1 c7_5_1 (((Seg.touch cc (l[i])).1).old), own tInt S7_5_2 a7_5_2 c7_5_2 ((Seg.touch cc (l[i])).2.2), loose tInt (acc_1 = ah_1 ∧ ccc_1 = ch_1 ∧ cc.old = h.old) Scc_1 acc_1 ccc_1 cc.old, loose tInt (acc_0 = ah_0 ∧ ccc_0 = ch_0 ∧ cc.young = h.young) Scc_0 acc_0 ccc_0 cc.young, box B2 [.int .i64 0, .int .i64 0, .slice none 0 0, .slice none 0 0] 58, box B1 [.int .i64 (((Seg.touch cc (l[i])).1).first), .int .i64 (((Seg.touch cc (l[i])).1).second), .slice a7_5 (((Seg.touch cc (l[i])).1).young).length c7_5, .slice a7_5_1 (((Seg.touch cc (l[i])).1).old).length c7_5_1] 58, base w0]) (fun w hw => HeapIs.toLoose (i := 2) (T := tInt) rfl hw) ?_
      refine q_round hK5 ((hits + 1), i + 1, ((Seg.touch cc (l[i])).1), a7_5, c7_5, S7_5, a7_5_1, c7_5_1, S7_5_1) ?_ ?_ ?_ ?_
      · clear hK5
        first | exact hI.hit (by omega) (by assumption) | exact hI.miss (by omega) (by assumption)
      · (try dsimp only); omega
      · exact Sub.cons rfl (Sub.cons rfl (Sub.cons rfl (Sub.cons rfl (Sub.cons rfl (Sub.nil _)))))
      · exact fun _ hw => HeapIs.pick hw [2, 1, 6, 7, 8] (by decide) rfl
    · skip
      refine c_skip ?_
      refine q_then ?_
      refine c_region ?_
      refine o_pure (p_load_agg (i := 0) (vs := [.int .i64 (((Seg.touch cc (l[i])).1).first), .int .i64 (((Seg.touch cc (l[i])).1).second), .slice a7_5 (((Seg.touch cc (l[i])).1).young).length c7_5, .slice a7_5_1 (((Seg.touch cc (l[i])).1).old).length c7_5_1]) rfl rfl sh58 rfl rfl) rfl rfl rfl ?_
      refine o_storeN (i := 7) (vs := [.int .i64 (((Seg.touch cc (l[i])).1).first), .int .i64 (((Seg.touch cc (l[i])).1).second), .slice a7_5 (((Seg.touch cc (l[i])).1).young).length c7_5, .slice a7_5_1 (((Seg.touch cc (l[i])).1).old).length c7_5_1]) (cs' := [.int .i64 (((Seg.touch cc (l[i])).1).first), .int .i64 (((Seg.touch cc (l[i])).1).second), .slice a7_5 (((Seg.touch cc (l[i])).1).young).length c7_5, .slice a7_5_1 (((Seg.touch cc (l[i])).1).old).length c7_5_1]) rfl rfl rfl sz58 rfl rfl rfl rfl ?_
      refine o_nil ?_
      refine q_block_normal (q_then ?_)
      refine c_region ?_
      refine o_pure (p_move (v := .int .i64 (i : Int)) rfl) rfl rfl rfl ?_
      refine o_pure (p_addb (p := (i : Int)) (q := 1) rfl rfl (by omega)) rfl rfl rfl ?_
      refine o_pure (p_assign (v := .int .i64 ((i : Int) + 1)) rfl) rfl rfl rfl ?_
      refine o_nil ?_
      refine q_heap (H' := [box B7_10 [.int .i64 (((Seg.touch cc (l[i])).1).first), .int .i64 (((Seg.touch cc (l[i])).1).second), .slice a7_5 (((Seg.touch cc (l[i])).1).young).length c7_5, .slice a7_5_1 (((Seg.touch cc (l[i])).1).old).length c7_5_1] 58, loose tInt (a7_5 = ah_0 ∧ c7_5 = ch_0 ∧ (((Seg.touch cc (l[i])).1).young) = h.young) S7_5 a7_5 c7_5 (((Seg.touch cc (l[i])).1).young), own tInt S7_5_1 a7_5_1 c7_5_1 (((Seg.touch cc (l[i])).1).old), own tInt S7_5_2 a7_5_2 c7_5_2 ((Seg.touch cc (l[i])).2.2), loose tInt (acc_1 = ah_1 ∧ ccc_1 = ch_1 ∧ cc.old = h.old) Scc_1 acc_1 ccc_1 cc.old, loose tInt (acc_0 = ah_0 ∧ ccc_0 = ch_0 ∧ cc.young = h.young) Scc_0 acc_0 ccc_0 cc.young, box B2 [.int .i64 0, .int .i64 0, .slice none 0 0, .slice none 0 0] 58, box B1 [.int .i64 (((Seg.touch cc (l[i])).1).first), .int .i64 (((Seg.touch cc (l[i])).1).second), .slice a7_5 (((Seg.touch cc (l[i])).1).young).length c7_5, .slice a7_5_1 (((Seg.touch cc (l[i])).1).old).length c7_5_1] 58, base w0]) (fun w hw => HeapIs.toLoose (i := 1) (T := tInt) rfl hw) ?_
      refine q_heap (H' := [box B7_10 [.int .i64 (((Seg.touch cc (l[i])).1).first), .int .i64 (((Seg.touch cc (l[i])).1).second), .slice a7_5 (((Seg.touch cc (l[i])).1).young).length c7_5, .slice a7_5_1 (((Seg.touch cc (l[i])).1).old).length c7_5_1] 58, loose tInt (a7_5 = ah_0 ∧ c7_5 = ch_0 ∧ (((Seg.touch cc (l[i])).1).young) = h.young) S7_5 a7_5 c7_5 (((Seg.touch cc (l[i])).1).young), loose tInt (a7_5_1 = ah_1 ∧ c7_5_1 = ch_1 ∧ (((Seg.touch cc (l[i])).1).old) = h.old) S7_5_1 a7_5_1 c7_5_1 (((Seg.touch cc (l[i])).1).old), own tInt S7_5_2 a7_5_2 c7_5_2 ((Seg.touch cc (l[i])).2.2), loose tInt (acc_1 = ah_1 ∧ ccc_1 = ch_1 ∧ cc.old = h.old) Scc_1 acc_1 ccc_1 cc.old, loose tInt (acc_0 = ah_0 ∧ ccc_0 = ch_0 ∧ cc.young = h.young) Scc_0 acc_0 ccc_0 cc.young, box B2 [.int .i64 0, .int .i64 0, .slice none 0 0, .slice none 0 0] 58, box B1 [.int .i64 (((Seg.touch cc (l[i])).1).first), .int .i64 (((Seg.touch cc (l[i])).1).second), .slice a7_5 (((Seg.touch cc (l[i])).1).young).length c7_5, .slice a7_5_1 (((Seg.touch cc (l[i])).1).old).length c7_5_1] 58, base w0]) (fun w hw => HeapIs.toLoose (i := 2) (T := tInt) rfl hw) ?_
      refine q_round hK5 (hits, i + 1, ((Seg.touch cc (l[i])).1), a7_5, c7_5, S7_5, a7_5_1, c7_5_1, S7_5_1) ?_ ?_ ?_ ?_
      · clear hK5
        first | exact hI.hit (by omega) (by assumption) | exact hI.miss (by omega) (by assumption)
      · (try dsimp only); omega
      · exact Sub.cons rfl (Sub.cons rfl (Sub.cons rfl (Sub.cons rfl (Sub.cons rfl (Sub.nil _)))))
      · exact fun _ hw => HeapIs.pick hw [2, 1, 6, 7, 8] (by decide) rfl
  · simp only [decide_eq_false_iff_not, Int.not_lt] at hc6
    refine c_exit ?_
    refine q_then_exit (q_then_exit (q_block_exit (q_then ?_)))
    refine c_seq ?_
    refine c_region ?_
    refine o_pure (p_load_agg (i := 3) (vs := [.int .i64 cc.first, .int .i64 cc.second, .slice acc_0 cc.young.length ccc_0, .slice acc_1 cc.old.length ccc_1]) rfl rfl sh58 rfl rfl) rfl rfl rfl ?_
    refine o_pure (p_move (v := .int .i64 hits) rfl) rfl rfl rfl ?_
    refine o_storeN (i := 2) (vs := [.int .i64 cc.first, .int .i64 cc.second, .slice acc_0 cc.young.length ccc_0, .slice acc_1 cc.old.length ccc_1]) (cs' := [.int .i64 cc.first, .int .i64 cc.second, .slice acc_0 cc.young.length ccc_0, .slice acc_1 cc.old.length ccc_1]) rfl rfl rfl sz58 rfl rfl rfl rfl ?_
    refine o_pure (p_assign (v := .int .i64 hits) rfl) rfl rfl rfl ?_
    refine o_nil ?_
    refine q_then ?_
    refine c_ret ?_
    have hd := hI.done (by omega)
    have hr0 : (cc.first : Int) = ((Seg.runGo h 0 l).1).first := by
      simp only [hd]
    have hr1 : (cc.second : Int) = ((Seg.runGo h 0 l).1).second := by
      simp only [hd]
    have hr2 : (cc.young : List Int) = ((Seg.runGo h 0 l).1).young := by
      simp only [hd]
    have hr3 : (cc.old : List Int) = ((Seg.runGo h 0 l).1).old := by
      simp only [hd]
    have hr4 : (hits : Int) = ((Seg.runGo h 0 l).2) := by
      simp only [hd]
    refine q_endM (p := (acc_0, ccc_0, acc_1, ccc_1)) (fun b => Scc_0 b ∨ Scc_1 b) (rt2 rfl (r_cell (i := 2) rfl rfl sh58 rfl) (r_tmp rfl)) (i := 4) rfl ?_ ?_ ?_
    · exact (by have hcc := congr (congr (congr (congr (congrArg (fun (y0 : Int) (y1 : Int) (y2 : List Int) (y3 : List Int) (y4 : Int) => (.tuple #[.agg #[.int .i64 y0, .int .i64 y1, .slice acc_0 y2.length ccc_0, .slice acc_1 y3.length ccc_1], .int .i64 y4] : Value)) hr0) hr1) hr2) hr3) hr4; exact hcc)
    · intro w hw b hb; rcases hb with hb | hb
      · exact hw.above (i := 4) (j := 1) (by decide) rfl rfl b hb
      · exact hw.above (i := 4) (j := 0) (by decide) rfl rfl b hb
    · intro w hw; exact ⟨Eq.mp (congrArg (fun y => SlR tInt _ w acc_0 ccc_0 y ∨ (acc_0 = ah_0 ∧ ccc_0 = ch_0 ∧ y = h.young)) hr2) (Or.imp (fun h => SlR.mono (fun b hb => by simp [hb]) h) id (hw.at (i := 1) rfl).here), Eq.mp (congrArg (fun y => SlR tInt _ w acc_1 ccc_1 y ∨ (acc_1 = ah_1 ∧ ccc_1 = ch_1 ∧ y = h.old)) hr3) (Or.imp (fun h => SlR.mono (fun b hb => by simp [hb]) h) id (hw.at (i := 0) rfl).here)⟩
end Go.Proofs.Ytkndekkacimekaa
