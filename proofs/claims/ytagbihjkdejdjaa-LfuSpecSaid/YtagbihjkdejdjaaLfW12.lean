/- The walks, printed by a program from the translation and a specification. -/
import Derived.Test.YtagbihjkdejdjaaLfF
import Derived.Test.YtagbihjkdejdjaaLfLaw5
import Derived.Test.YtagbihjkdejdjaaLfW11
namespace Go.Proofs.Ytagbihjkdejdjaa
open Go.Sx Go.RowKit
set_option maxHeartbeats 8000000 in
set_option maxRecDepth 100000 in
theorem rfrun_ok (u : DUses) (au_0 : Option Addr) (cu_0 : Nat) (l : List Int) (al : Option Addr) (cl : Nat) (hy1 : Lfu.Ok u ∧ ∀ x ∈ l, Lru.okKey x = true) : FnM Try.prog 22 [.agg #[.int .i64 u.room, .slice au_0 u.list.length cu_0], .slice al l.length cl] (fun w => Rd tUse w au_0 cu_0 u.list ∧ Rd tInt w al cl l) (Option Addr × Nat) (fun p => .tuple #[.agg #[.int .i64 (((Lfu.runGo u 0 l).1).room), .slice p.1 (((Lfu.runGo u 0 l).1).list).length p.2], .int .i64 ((Lfu.runGo u 0 l).2)]) (fun p S w => (SlR tUse S w p.1 p.2 (((Lfu.runGo u 0 l).1).list) ∨ (p.1 = au_0 ∧ p.2 = cu_0 ∧ (((Lfu.runGo u 0 l).1).list) = u.list))) := by
  refine fnM (nt := 33) (F0 := [(0, .agg #[.int .i64 u.room, .slice au_0 u.list.length cu_0]), (1, .slice al l.length cl)]) Try.func22 rfl Try.ntmps22 rfl rfl (fun w0 hpre => ?_)
  obtain ⟨hu_0, hl⟩ := hpre
  have hlhu_0 := hu_0.2.1
  have hlhl := hl.2.1
  refine c_seq ?_
  refine c_region ?_
  refine o_box (v := .agg #[.int .i64 u.room, .slice au_0 u.list.length cu_0]) rfl rfl (fun B1 => ?_)
  refine o_alloc ze24 rfl (fun B2 => ?_)
  refine o_pure (p_assign (v := .int .i64 0) rfl) rfl rfl rfl ?_
  refine o_nil ?_
  refine q_then ?_
  refine c_seq ?_
  refine c_region ?_
  refine o_pure (p_assign (v := .int .i64 0) rfl) rfl rfl rfl ?_
  refine o_nil ?_
  refine q_then ?_
  refine c_seq ?_
  refine c_seq ?_
  refine c_region ?_
  refine o_pure (p_assign (v := .int .i64 0) rfl) rfl rfl rfl ?_
  refine o_nil ?_
  refine q_then ?_
  refine c_block ?_
  refine c_heap (H' := [loose tUse (au_0 = au_0 ∧ cu_0 = cu_0 ∧ u.list = u.list) (fun _ => False) au_0 cu_0 u.list, box B2 [.int .i64 0, .slice none 0 0] 24, box B1 [.int .i64 u.room, .slice au_0 u.list.length cu_0] 24, base w0]) (fun w hw => HeapIs.looseOf ⟨rfl, rfl, rfl⟩ hw) ?_
  refine c_loop (St := Int × Nat × DUses × Option Addr × Nat × (Nat → Prop))
    (fun ⟨hits, i, cc, acc_0, ccc_0, Scc_0⟩ => [(1, .slice al l.length cl), (2, .pointer (some ⟨B1, 0, none⟩)), (4, .pointer (some ⟨B2, 0, none⟩)), (6, .int .i64 hits), (7, .int .i64 (i : Int))])
    (fun ⟨hits, i, cc, acc_0, ccc_0, Scc_0⟩ => [loose tUse (acc_0 = au_0 ∧ ccc_0 = cu_0 ∧ cc.list = u.list) Scc_0 acc_0 ccc_0 cc.list, box B2 [.int .i64 0, .slice none 0 0] 24, box B1 [.int .i64 cc.room, .slice acc_0 cc.list.length ccc_0] 24, base w0])
    (fun ⟨hits, i, cc, acc_0, ccc_0, Scc_0⟩ => Lfu.RInv u cc l hits i)
    (fun ⟨hits, i, cc, acc_0, ccc_0, Scc_0⟩ => l.length - i)
    (0, 0, u, au_0, cu_0, (fun _ => False)) ?_ (Sub.cons rfl (Sub.cons rfl (Sub.cons rfl (Sub.cons rfl (Sub.cons rfl (Sub.nil _)))))) (fun _ hw => hw) ?_
  · exact Lfu.RInv.start hy1.1 hy1.2
  rintro ⟨hits, i, cc, acc_0, ccc_0, Scc_0⟩ hI K hK4
  have hn0 := hI.n0
  have hn1 := hI.n1
  show SC _ _ Try.prog 33 w0 _ _ [(1, .slice al l.length cl), (2, .pointer (some ⟨B1, 0, none⟩)), (4, .pointer (some ⟨B2, 0, none⟩)), (6, .int .i64 hits), (7, .int .i64 (i : Int))] [loose tUse (acc_0 = au_0 ∧ ccc_0 = cu_0 ∧ cc.list = u.list) Scc_0 acc_0 ccc_0 cc.list, box B2 [.int .i64 0, .slice none 0 0] 24, box B1 [.int .i64 cc.room, .slice acc_0 cc.list.length ccc_0] 24, base w0]
  refine c_seq ?_
  refine c_seq ?_
  refine c_region ?_
  refine o_pure (p_move (v := .int .i64 (i : Int)) rfl) rfl rfl rfl ?_
  refine o_pure (p_move (v := .slice al l.length cl) rfl) rfl rfl rfl ?_
  refine o_pure (p_len_slice (len := l.length) rfl rfl Try.underlying25) rfl rfl rfl ?_
  refine o_pure (p_lt (p := (i : Int)) (q := (l.length : Int)) rfl rfl) rfl rfl rfl ?_
  refine o_nil ?_
  refine q_then ?_
  refine c_cond (b := decide ((i : Int) < (l.length : Int))) rfl (fun hc5 => ?_) (fun hc5 => ?_)
  · simp only [decide_eq_true_eq] at hc5
    refine c_skip ?_
    refine q_then ?_
    refine c_seq ?_
    refine c_block ?_
    refine c_seq ?_
    refine c_cut (G := (Nat → Prop) × Option Addr × Nat × Nat) (fun ⟨S6_5, a6_5, c6_5, B6_10⟩ => [(1, .slice al l.length cl), (2, .pointer (some ⟨B1, 0, none⟩)), (4, .pointer (some ⟨B2, 0, none⟩)), (6, .int .i64 hits), (7, .int .i64 (i : Int)), (8, .pointer (some ⟨B6_10, 0, none⟩)), (9, .bool ((Lfu.touch cc (l[i])).2.1))]) (fun ⟨S6_5, a6_5, c6_5, B6_10⟩ => [box B6_10 [.int .i64 (((Lfu.touch cc (l[i])).1).room), .slice a6_5 (((Lfu.touch cc (l[i])).1).list).length c6_5] 24, own tUse S6_5 a6_5 c6_5 (((Lfu.touch cc (l[i])).1).list), loose tUse (acc_0 = au_0 ∧ ccc_0 = cu_0 ∧ cc.list = u.list) Scc_0 acc_0 ccc_0 cc.list, box B2 [.int .i64 0, .slice none 0 0] 24, box B1 [.int .i64 cc.room, .slice acc_0 cc.list.length ccc_0] 24, base w0]) (fun K hK7 => ?_) ?_
    · refine c_held hmix [loose tUse (acc_0 = au_0 ∧ ccc_0 = cu_0 ∧ cc.list = u.list) Scc_0 acc_0 ccc_0 cc.list, box B2 [.int .i64 0, .slice none 0 0] 24, box B1 [.int .i64 cc.room, .slice acc_0 cc.list.length ccc_0] 24, base w0] rfl rfl ?_
      refine h_take (i := 0) (ls := #[true, false, false, false, false, false, false, false, false, false, false, false, false, false]) rfl (by kernel_rfl) (by kernel_rfl) (by kernel_rfl) (fun _ _ _ h => h) (p_load_agg (i := 2) (vs := [.int .i64 cc.room, .slice acc_0 cc.list.length ccc_0]) rfl rfl sh24 rfl rfl) rfl rfl rfl (fun _ hw => HeapIs.drop hw (List.Sublist.refl _)) rfl ?_
      refine h_take (i := 1) (ls := #[true, true, false, false, false, false, false, false, false, false, false, false, false, false]) rfl (by kernel_rfl) (by kernel_rfl) (by kernel_rfl) (fun _ _ _ h => h) (p_move (v := .slice al l.length cl) rfl) rfl rfl rfl (fun _ hw => HeapIs.drop hw (List.Sublist.refl _)) rfl ?_
      refine h_take (i := 2) (ls := #[true, true, true, false, false, false, false, false, false, false, false, false, false, false]) rfl (by kernel_rfl) (by kernel_rfl) (by kernel_rfl) (fun _ _ _ h => h) (p_move (v := .int .i64 (i : Int)) rfl) rfl rfl rfl (fun _ hw => HeapIs.drop hw (List.Sublist.refl _)) rfl ?_
      refine h_take (i := 3) (ls := #[true, true, true, true, false, false, false, false, false, false, false, false, false, false]) rfl (by kernel_rfl) (by kernel_rfl) (by kernel_rfl) (fun _ _ _ h => h) (p_indexAddr (L := l) (T := tInt) (i := (i : Int)) rfl rfl (rd_base (i := 3) rfl hl) Try.underlying25 sz3 (by omega) (by omega)) rfl rfl rfl (fun _ hw => HeapIs.drop hw (List.Sublist.refl _)) rfl ?_
      refine h_take (i := 4) (ls := #[true, true, true, true, true, false, false, false, false, false, false, false, false, false]) rfl (by kernel_rfl) (by kernel_rfl) (by kernel_rfl) (fun _ _ _ h => h) (p_loadE1 (i := i) (T := tInt) (L := l) (v := .int .i64 (l[i])) rfl (rd_base (i := 3) rfl hl) (by first | assumption | omega) sh3 rfl) rfl rfl rfl (fun _ hw => HeapIs.drop hw (List.Sublist.refl _)) rfl ?_
      refine h_two (i := 5) (j := 10) (ls := #[true, true, true, true, true, true, false, false, false, false, false, false, false, false]) (ls' := #[true, true, true, true, true, false, false, false, false, false, true, false, false, false]) (by kernel_rfl) rfl rfl rfl rfl ?_ ?_
      · refine o_callM rfl (rftouch_ok cc acc_0 ccc_0 (l[i]) (by first | assumption | exact hI.ok | omega)) hf20 (fun w hw => (rd_loose (i := 0) rfl (fun hφ => by obtain ⟨h1, h2, h3⟩ := hφ; intro w hw; have g1 : acc_0 = au_0 := h1; have g2 : ccc_0 = cu_0 := h2; have g3 : cc.list = u.list := h3; rw [g1, g2, g3]; exact (rd_base (i := 3) rfl hu_0) w hw)) w hw) rfl (fun _ _ _ _ ha hA => SlO.agree ha hA) ?_
        rintro ⟨a6_5, c6_5⟩ S6_5
        refine o_know (fun w hw => own_len (i := 0) (T := tUse) hw rfl) (fun hlr6_5 => ?_)
        refine o_nil ?_
        refine h_next (fun _ hw => HeapIs.drop hw (List.Sublist.cons _ (List.Sublist.cons_cons _ (List.Sublist.cons_cons _ (List.Sublist.cons_cons _ (List.Sublist.cons_cons _ (List.Sublist.slnil))))))) ?_
        refine h_take (i := 6) (ls := #[true, true, true, true, true, true, true, false, false, false, false, false, false, false]) rfl (by kernel_rfl) (by kernel_rfl) (by kernel_rfl) (fun _ _ _ h => h) (p_move (v := .tuple #[.agg #[.int .i64 (((Lfu.touch cc (l[i])).1).room), .slice a6_5 (((Lfu.touch cc (l[i])).1).list).length c6_5], .bool ((Lfu.touch cc (l[i])).2.1), .int .i64 ((Lfu.touch cc (l[i])).2.2)]) rfl) rfl rfl rfl (fun _ hw => HeapIs.drop hw (List.Sublist.cons _ (List.Sublist.cons_cons _ (List.Sublist.cons_cons _ (List.Sublist.cons_cons _ (List.Sublist.cons_cons _ (List.Sublist.slnil))))))) rfl ?_
        refine h_take (i := 7) (ls := #[true, true, true, true, true, true, true, true, false, false, false, false, false, false]) rfl (by kernel_rfl) (by kernel_rfl) (by kernel_rfl) (fun _ _ _ h => h) (p_extract (vs := [.agg #[.int .i64 (((Lfu.touch cc (l[i])).1).room), .slice a6_5 (((Lfu.touch cc (l[i])).1).list).length c6_5], .bool ((Lfu.touch cc (l[i])).2.1), .int .i64 ((Lfu.touch cc (l[i])).2.2)]) (v := .agg #[.int .i64 (((Lfu.touch cc (l[i])).1).room), .slice a6_5 (((Lfu.touch cc (l[i])).1).list).length c6_5]) rfl rfl) rfl rfl rfl (fun _ hw => HeapIs.drop hw (List.Sublist.cons _ (List.Sublist.cons_cons _ (List.Sublist.cons_cons _ (List.Sublist.cons_cons _ (List.Sublist.cons_cons _ (List.Sublist.slnil))))))) rfl ?_
        refine h_take (i := 8) (ls := #[true, true, true, true, true, true, true, true, true, false, false, false, false, false]) rfl (by kernel_rfl) (by kernel_rfl) (by kernel_rfl) (fun _ _ _ h => h) (p_extract (vs := [.agg #[.int .i64 (((Lfu.touch cc (l[i])).1).room), .slice a6_5 (((Lfu.touch cc (l[i])).1).list).length c6_5], .bool ((Lfu.touch cc (l[i])).2.1), .int .i64 ((Lfu.touch cc (l[i])).2.2)]) (v := .bool ((Lfu.touch cc (l[i])).2.1)) rfl rfl) rfl rfl rfl (fun _ hw => HeapIs.drop hw (List.Sublist.cons _ (List.Sublist.cons_cons _ (List.Sublist.cons_cons _ (List.Sublist.cons_cons _ (List.Sublist.cons_cons _ (List.Sublist.slnil))))))) rfl ?_
        refine h_take (i := 9) (ls := #[true, true, true, true, true, true, true, true, true, true, false, false, false, false]) rfl (by kernel_rfl) (by kernel_rfl) (by kernel_rfl) (fun _ _ _ h => h) (p_extract (vs := [.agg #[.int .i64 (((Lfu.touch cc (l[i])).1).room), .slice a6_5 (((Lfu.touch cc (l[i])).1).list).length c6_5], .bool ((Lfu.touch cc (l[i])).2.1), .int .i64 ((Lfu.touch cc (l[i])).2.2)]) (v := .int .i64 ((Lfu.touch cc (l[i])).2.2)) rfl rfl) rfl rfl rfl (fun _ hw => HeapIs.drop hw (List.Sublist.cons _ (List.Sublist.cons_cons _ (List.Sublist.cons_cons _ (List.Sublist.cons_cons _ (List.Sublist.cons_cons _ (List.Sublist.slnil))))))) rfl ?_
        refine h_one (i := 10) (ls := #[true, true, true, true, true, true, true, true, true, true, true, false, false, false]) (by kernel_rfl) rfl rfl ?_
        refine o_alloc ze24 rfl (fun B6_10 => ?_)
        refine o_nil ?_
        refine h_next (fun _ hw => HeapIs.drop hw (List.Sublist.cons _ (List.Sublist.cons _ (List.Sublist.cons_cons _ (List.Sublist.cons_cons _ (List.Sublist.cons_cons _ (List.Sublist.cons_cons _ (List.Sublist.slnil)))))))) ?_
        refine h_one (i := 11) (ls := #[true, true, true, true, true, true, true, true, true, true, true, true, false, false]) (by kernel_rfl) rfl rfl ?_
        refine o_storeN (i := 0) (vs := [.int .i64 (((Lfu.touch cc (l[i])).1).room), .slice a6_5 (((Lfu.touch cc (l[i])).1).list).length c6_5]) (cs' := [.int .i64 (((Lfu.touch cc (l[i])).1).room), .slice a6_5 (((Lfu.touch cc (l[i])).1).list).length c6_5]) rfl rfl rfl sz24 rfl rfl rfl rfl ?_
        refine o_nil ?_
        refine h_next (fun _ hw => HeapIs.drop hw (List.Sublist.cons _ (List.Sublist.cons _ (List.Sublist.cons_cons _ (List.Sublist.cons_cons _ (List.Sublist.cons_cons _ (List.Sublist.cons_cons _ (List.Sublist.slnil)))))))) ?_
        refine h_take (i := 12) (ls := #[true, true, true, true, true, true, true, true, true, true, true, true, true, false]) rfl (by kernel_rfl) (by kernel_rfl) (by kernel_rfl) (fun _ _ _ h => h) (p_assign (v := .bool ((Lfu.touch cc (l[i])).2.1)) rfl) rfl rfl rfl (fun _ hw => HeapIs.drop hw (List.Sublist.cons _ (List.Sublist.cons _ (List.Sublist.cons_cons _ (List.Sublist.cons_cons _ (List.Sublist.cons_cons _ (List.Sublist.cons_cons _ (List.Sublist.slnil)))))))) rfl ?_
        refine h_take (i := 13) (ls := #[true, true, true, true, true, true, true, true, true, true, true, true, true, true]) rfl (by kernel_rfl) (by kernel_rfl) (by kernel_rfl) (fun _ _ _ h => h) (p_assign (v := .int .i64 ((Lfu.touch cc (l[i])).2.2)) rfl) rfl rfl rfl (fun _ hw => HeapIs.drop hw (List.Sublist.cons _ (List.Sublist.cons _ (List.Sublist.cons_cons _ (List.Sublist.cons_cons _ (List.Sublist.cons_cons _ (List.Sublist.cons_cons _ (List.Sublist.slnil)))))))) rfl ?_
        refine h_done (by kernel_rfl) ?_
        refine q_kont hK7 (S6_5, a6_5, c6_5, B6_10) (Sub.cons rfl (Sub.cons rfl (Sub.cons rfl (Sub.cons rfl (Sub.cons rfl (Sub.cons rfl (Sub.cons rfl (Sub.nil _)))))))) (fun _ hw => HeapIs.pick hw [0, 1, 2, 3, 4, 5] (by decide) rfl)
      · refine o_alloc ze24 rfl (fun B6_10 => ?_)
        refine o_nil ?_
        refine h_next (fun _ hw => HeapIs.drop hw (List.Sublist.cons _ (List.Sublist.cons_cons _ (List.Sublist.cons_cons _ (List.Sublist.cons_cons _ (List.Sublist.cons_cons _ (List.Sublist.slnil))))))) ?_
        refine h_one (i := 5) (ls := #[true, true, true, true, true, true, false, false, false, false, true, false, false, false]) (by kernel_rfl) rfl rfl ?_
        refine o_callM rfl (rftouch_ok cc acc_0 ccc_0 (l[i]) (by first | assumption | exact hI.ok | omega)) hf20 (fun w hw => (rd_loose (i := 1) rfl (fun hφ => by obtain ⟨h1, h2, h3⟩ := hφ; intro w hw; have g1 : acc_0 = au_0 := h1; have g2 : ccc_0 = cu_0 := h2; have g3 : cc.list = u.list := h3; rw [g1, g2, g3]; exact (rd_base (i := 4) rfl hu_0) w hw)) w hw) rfl (fun _ _ _ _ ha hA => SlO.agree ha hA) ?_
        rintro ⟨a6_5, c6_5⟩ S6_5
        refine o_know (fun w hw => own_len (i := 0) (T := tUse) hw rfl) (fun hlr6_5 => ?_)
        refine o_nil ?_
        refine h_next (fun _ hw => HeapIs.drop hw (List.Sublist.cons _ (List.Sublist.cons _ (List.Sublist.cons_cons _ (List.Sublist.cons_cons _ (List.Sublist.cons_cons _ (List.Sublist.cons_cons _ (List.Sublist.slnil)))))))) ?_
        refine h_take (i := 6) (ls := #[true, true, true, true, true, true, true, false, false, false, true, false, false, false]) rfl (by kernel_rfl) (by kernel_rfl) (by kernel_rfl) (fun _ _ _ h => h) (p_move (v := .tuple #[.agg #[.int .i64 (((Lfu.touch cc (l[i])).1).room), .slice a6_5 (((Lfu.touch cc (l[i])).1).list).length c6_5], .bool ((Lfu.touch cc (l[i])).2.1), .int .i64 ((Lfu.touch cc (l[i])).2.2)]) rfl) rfl rfl rfl (fun _ hw => HeapIs.drop hw (List.Sublist.cons _ (List.Sublist.cons _ (List.Sublist.cons_cons _ (List.Sublist.cons_cons _ (List.Sublist.cons_cons _ (List.Sublist.cons_cons _ (List.Sublist.slnil)))))))) rfl ?_
        refine h_take (i := 7) (ls := #[true, true, true, true, true, true, true, true, false, false, true, false, false, false]) rfl (by kernel_rfl) (by kernel_rfl) (by kernel_rfl) (fun _ _ _ h => h) (p_extract (vs := [.agg #[.int .i64 (((Lfu.touch cc (l[i])).1).room), .slice a6_5 (((Lfu.touch cc (l[i])).1).list).length c6_5], .bool ((Lfu.touch cc (l[i])).2.1), .int .i64 ((Lfu.touch cc (l[i])).2.2)]) (v := .agg #[.int .i64 (((Lfu.touch cc (l[i])).1).room), .slice a6_5 (((Lfu.touch cc (l[i])).1).list).length c6_5]) rfl rfl) rfl rfl rfl (fun _ hw => HeapIs.drop hw (List.Sublist.cons _ (List.Sublist.cons _ (List.Sublist.cons_cons _ (List.Sublist.cons_cons _ (List.Sublist.cons_cons _ (List.Sublist.cons_cons _ (List.Sublist.slnil)))))))) rfl ?_
        refine h_take (i := 8) (ls := #[true, true, true, true, true, true, true, true, true, false, true, false, false, false]) rfl (by kernel_rfl) (by kernel_rfl) (by kernel_rfl) (fun _ _ _ h => h) (p_extract (vs := [.agg #[.int .i64 (((Lfu.touch cc (l[i])).1).room), .slice a6_5 (((Lfu.touch cc (l[i])).1).list).length c6_5], .bool ((Lfu.touch cc (l[i])).2.1), .int .i64 ((Lfu.touch cc (l[i])).2.2)]) (v := .bool ((Lfu.touch cc (l[i])).2.1)) rfl rfl) rfl rfl rfl (fun _ hw => HeapIs.drop hw (List.Sublist.cons _ (List.Sublist.cons _ (List.Sublist.cons_cons _ (List.Sublist.cons_cons _ (List.Sublist.cons_cons _ (List.Sublist.cons_cons _ (List.Sublist.slnil)))))))) rfl ?_
        refine h_take (i := 9) (ls := #[true, true, true, true, true, true, true, true, true, true, true, false, false, false]) rfl (by kernel_rfl) (by kernel_rfl) (by kernel_rfl) (fun _ _ _ h => h) (p_extract (vs := [.agg #[.int .i64 (((Lfu.touch cc (l[i])).1).room), .slice a6_5 (((Lfu.touch cc (l[i])).1).list).length c6_5], .bool ((Lfu.touch cc (l[i])).2.1), .int .i64 ((Lfu.touch cc (l[i])).2.2)]) (v := .int .i64 ((Lfu.touch cc (l[i])).2.2)) rfl rfl) rfl rfl rfl (fun _ hw => HeapIs.drop hw (List.Sublist.cons _ (List.Sublist.cons _ (List.Sublist.cons_cons _ (List.Sublist.cons_cons _ (List.Sublist.cons_cons _ (List.Sublist.cons_cons _ (List.Sublist.slnil)))))))) rfl ?_
        refine h_one (i := 11) (ls := #[true, true, true, true, true, true, true, true, true, true, true, true, false, false]) (by kernel_rfl) rfl rfl ?_
        refine o_storeN (i := 1) (vs := [.int .i64 (((Lfu.touch cc (l[i])).1).room), .slice a6_5 (((Lfu.touch cc (l[i])).1).list).length c6_5]) (cs' := [.int .i64 (((Lfu.touch cc (l[i])).1).room), .slice a6_5 (((Lfu.touch cc (l[i])).1).list).length c6_5]) rfl rfl rfl sz24 rfl rfl rfl rfl ?_
        refine o_nil ?_
        refine h_next (fun _ hw => HeapIs.drop hw (List.Sublist.cons _ (List.Sublist.cons _ (List.Sublist.cons_cons _ (List.Sublist.cons_cons _ (List.Sublist.cons_cons _ (List.Sublist.cons_cons _ (List.Sublist.slnil)))))))) ?_
        refine h_take (i := 12) (ls := #[true, true, true, true, true, true, true, true, true, true, true, true, true, false]) rfl (by kernel_rfl) (by kernel_rfl) (by kernel_rfl) (fun _ _ _ h => h) (p_assign (v := .bool ((Lfu.touch cc (l[i])).2.1)) rfl) rfl rfl rfl (fun _ hw => HeapIs.drop hw (List.Sublist.cons _ (List.Sublist.cons _ (List.Sublist.cons_cons _ (List.Sublist.cons_cons _ (List.Sublist.cons_cons _ (List.Sublist.cons_cons _ (List.Sublist.slnil)))))))) rfl ?_
        refine h_take (i := 13) (ls := #[true, true, true, true, true, true, true, true, true, true, true, true, true, true]) rfl (by kernel_rfl) (by kernel_rfl) (by kernel_rfl) (fun _ _ _ h => h) (p_assign (v := .int .i64 ((Lfu.touch cc (l[i])).2.2)) rfl) rfl rfl rfl (fun _ hw => HeapIs.drop hw (List.Sublist.cons _ (List.Sublist.cons _ (List.Sublist.cons_cons _ (List.Sublist.cons_cons _ (List.Sublist.cons_cons _ (List.Sublist.cons_cons _ (List.Sublist.slnil)))))))) rfl ?_
        refine h_done (by kernel_rfl) ?_
        refine q_kont hK7 (S6_5, a6_5, c6_5, B6_10) (Sub.cons rfl (Sub.cons rfl (Sub.cons rfl (Sub.cons rfl (Sub.cons rfl (Sub.cons rfl (Sub.cons rfl (Sub.nil _)))))))) (fun _ hw => HeapIs.pick hw [1, 0, 2, 3, 4, 5] (by decide) rfl)
    rintro ⟨S6_5, a6_5, c6_5, B6_10⟩
    show SQ _ 33 w0 _ _ [(1, .slice al l.length cl), (2, .pointer (some ⟨B1, 0, none⟩)), (4, .pointer (some ⟨B2, 0, none⟩)), (6, .int .i64 hits), (7, .int .i64 (i : Int)), (8, .pointer (some ⟨B6_10, 0, none⟩)), (9, .bool ((Lfu.touch cc (l[i])).2.1))] [box B6_10 [.int .i64 (((Lfu.touch cc (l[i])).1).room), .slice a6_5 (((Lfu.touch cc (l[i])).1).list).length c6_5] 24, own tUse S6_5 a6_5 c6_5 (((Lfu.touch cc (l[i])).1).list), loose tUse (acc_0 = au_0 ∧ ccc_0 = cu_0 ∧ cc.list = u.list) Scc_0 acc_0 ccc_0 cc.list, box B2 [.int .i64 0, .slice none 0 0] 24, box B1 [.int .i64 cc.room, .slice acc_0 cc.list.length ccc_0] 24, base w0]
    refine q_know (fun w hw => own_len (i := 1) (T := tUse) hw rfl) (fun hlr8 => ?_)
    refine q_then ?_
    refine c_seq ?_
    refine c_seq ?_
    refine c_region ?_
    refine o_pure (p_move (v := .bool ((Lfu.touch cc (l[i])).2.1)) rfl) rfl rfl rfl ?_
    refine o_nil ?_
    refine q_then ?_
    refine c_cond (b := ((Lfu.touch cc (l[i])).2.1)) rfl (fun hc9 => ?_) (fun hc9 => ?_)
    · skip
      refine c_region ?_
      refine o_pure (p_move (v := .int .i64 hits) rfl) rfl rfl rfl ?_
      refine o_pure (p_addb (p := hits) (q := 1) rfl rfl (by omega)) rfl rfl rfl ?_
      refine o_pure (p_assign (v := .int .i64 (hits + 1)) rfl) rfl rfl rfl ?_
      refine o_nil ?_
      refine q_then ?_
      refine c_region ?_
      refine o_pure (p_load_agg (i := 0) (vs := [.int .i64 (((Lfu.touch cc (l[i])).1).room), .slice a6_5 (((Lfu.touch cc (l[i])).1).list).length c6_5]) rfl rfl sh24 rfl rfl) rfl rfl rfl ?_
      refine o_storeN (i := 4) (vs := [.int .i64 (((Lfu.touch cc (l[i])).1).room), .slice a6_5 (((Lfu.touch cc (l[i])).1).list).length c6_5]) (cs' := [.int .i64 (((Lfu.touch cc (l[i])).1).room), .slice a6_5 (((Lfu.touch cc (l[i])).1).list).length c6_5]) rfl rfl rfl sz24 rfl rfl rfl rfl ?_
      refine o_nil ?_
      refine q_block_normal (q_then ?_)
      refine c_region ?_
      refine o_pure (p_move (v := .int .i64 (i : Int)) rfl) rfl rfl rfl ?_
      refine o_pure (p_addb (p := (i : Int)) (q := 1) rfl rfl (by omega)) rfl rfl rfl ?_
      refine o_pure (p_assign (v := .int .i64 ((i : Int) + 1)) rfl) rfl rfl rfl ?_
      refine o_nil ?_
      refine q_heap (H' := [box B6_10 [.int .i64 (((Lfu.touch cc (l[i])).1).room), .slice a6_5 (((Lfu.touch cc (l[i])).1).list).length c6_5] 24, loose tUse (a6_5 = au_0 ∧ c6_5 = cu_0 ∧ (((Lfu.touch cc (l[i])).1).list) = u.list) S6_5 a6_5 c6_5 (((Lfu.touch cc (l[i])).1).list), loose tUse (acc_0 = au_0 ∧ ccc_0 = cu_0 ∧ cc.list = u.list) Scc_0 acc_0 ccc_0 cc.list, box B2 [.int .i64 0, .slice none 0 0] 24, box B1 [.int .i64 (((Lfu.touch cc (l[i])).1).room), .slice a6_5 (((Lfu.touch cc (l[i])).1).list).length c6_5] 24, base w0]) (fun w hw => HeapIs.toLoose (i := 1) (T := tUse) rfl hw) ?_
      refine q_round hK4 ((hits + 1), i + 1, ((Lfu.touch cc (l[i])).1), a6_5, c6_5, S6_5) ?_ ?_ ?_ ?_
      · clear hK4
        first | exact hI.hit (by omega) (by assumption) | exact hI.miss (by omega) (by assumption)
      · (try dsimp only); omega
      · exact Sub.cons rfl (Sub.cons rfl (Sub.cons rfl (Sub.cons rfl (Sub.cons rfl (Sub.nil _)))))
      · exact fun _ hw => HeapIs.pick hw [1, 3, 4, 5] (by decide) rfl
    · skip
      refine c_skip ?_
      refine q_then ?_
      refine c_region ?_
      refine o_pure (p_load_agg (i := 0) (vs := [.int .i64 (((Lfu.touch cc (l[i])).1).room), .slice a6_5 (((Lfu.touch cc (l[i])).1).list).length c6_5]) rfl rfl sh24 rfl rfl) rfl rfl rfl ?_
      refine o_storeN (i := 4) (vs := [.int .i64 (((Lfu.touch cc (l[i])).1).room), .slice a6_5 (((Lfu.touch cc (l[i])).1).list).length c6_5]) (cs' := [.int .i64 (((Lfu.touch cc (l[i])).1).room), .slice a6_5 (((Lfu.touch cc (l[i])).1).list).length c6_5]) rfl rfl rfl sz24 rfl rfl rfl rfl ?_
      refine o_nil ?_
      refine q_block_normal (q_then ?_)
      refine c_region ?_
      refine o_pure (p_move (v := .int .i64 (i : Int)) rfl) rfl rfl rfl ?_
      refine o_pure (p_addb (p := (i : Int)) (q := 1) rfl rfl (by omega)) rfl rfl rfl ?_
      refine o_pure (p_assign (v := .int .i64 ((i : Int) + 1)) rfl) rfl rfl rfl ?_
      refine o_nil ?_
      refine q_heap (H' := [box B6_10 [.int .i64 (((Lfu.touch cc (l[i])).1).room), .slice a6_5 (((Lfu.touch cc (l[i])).1).list).length c6_5] 24, loose tUse (a6_5 = au_0 ∧ c6_5 = cu_0 ∧ (((Lfu.touch cc (l[i])).1).list) = u.list) S6_5 a6_5 c6_5 (((Lfu.touch cc (l[i])).1).list), loose tUse (acc_0 = au_0 ∧ ccc_0 = cu_0 ∧ cc.list = u.list) Scc_0 acc_0 ccc_0 cc.list, box B2 [.int .i64 0, .slice none 0 0] 24, box B1 [.int .i64 (((Lfu.touch cc (l[i])).1).room), .slice a6_5 (((Lfu.touch cc (l[i])).1).list).length c6_5] 24, base w0]) (fun w hw => HeapIs.toLoose (i := 1) (T := tUse) rfl hw) ?_
      refine q_round hK4 (hits, i + 1, ((Lfu.touch cc (l[i])).1), a6_5, c6_5, S6_5) ?_ ?_ ?_ ?_
      · clear hK4
        first | exact hI.hit (by omega) (by assumption) | exact hI.miss (by omega) (by assumption)
      · (try dsimp only); omega
      · exact Sub.cons rfl (Sub.cons rfl (Sub.cons rfl (Sub.cons rfl (Sub.cons rfl (Sub.nil _)))))
      · exact fun _ hw => HeapIs.pick hw [1, 3, 4, 5] (by decide) rfl
  · simp only [decide_eq_false_iff_not, Int.not_lt] at hc5
    refine c_exit ?_
    refine q_then_exit (q_then_exit (q_block_exit (q_then ?_)))
    refine c_seq ?_
    refine c_region ?_
    refine o_pure (p_load_agg (i := 2) (vs := [.int .i64 cc.room, .slice acc_0 cc.list.length ccc_0]) rfl rfl sh24 rfl rfl) rfl rfl rfl ?_
    refine o_pure (p_move (v := .int .i64 hits) rfl) rfl rfl rfl ?_
    refine o_storeN (i := 1) (vs := [.int .i64 cc.room, .slice acc_0 cc.list.length ccc_0]) (cs' := [.int .i64 cc.room, .slice acc_0 cc.list.length ccc_0]) rfl rfl rfl sz24 rfl rfl rfl rfl ?_
    refine o_pure (p_assign (v := .int .i64 hits) rfl) rfl rfl rfl ?_
    refine o_nil ?_
    refine q_then ?_
    refine c_ret ?_
    have hd := hI.done (by omega)
    have hr0 : (cc.room : Int) = ((Lfu.runGo u 0 l).1).room := by
      simp only [hd]
    have hr1 : (cc.list : List DUse) = ((Lfu.runGo u 0 l).1).list := by
      simp only [hd]
    have hr2 : (hits : Int) = ((Lfu.runGo u 0 l).2) := by
      simp only [hd]
    refine q_endM (p := (acc_0, ccc_0)) Scc_0 (rt2 rfl (r_cell (i := 1) rfl rfl sh24 rfl) (r_tmp rfl)) (i := 3) rfl ?_ ?_ ?_
    · exact (by have hcc := congr (congr (congrArg (fun (y0 : Int) (y1 : List DUse) (y2 : Int) => (.tuple #[.agg #[.int .i64 y0, .slice acc_0 y1.length ccc_0], .int .i64 y2] : Value)) hr0) hr1) hr2; exact hcc)
    · exact fun w hw => hw.above (i := 3) (j := 0) (by decide) rfl rfl
    · intro w hw; exact Eq.mp (congrArg (fun y => SlR tUse _ w acc_0 ccc_0 y ∨ (acc_0 = au_0 ∧ ccc_0 = cu_0 ∧ y = u.list)) hr1) (Or.imp (fun h => SlR.mono (fun b hb => by simp [hb]) h) id (hw.at (i := 0) rfl).here)
end Go.Proofs.Ytagbihjkdejdjaa
