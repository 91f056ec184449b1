/- The walks, printed by a program from the translation and a specification. -/
import Derived.Test.YtagbihjkdejdjaaLfF
import Derived.Test.YtagbihjkdejdjaaLfLaw5
namespace Go.Proofs.Ytagbihjkdejdjaa
open Go.Sx Go.RowKit
set_option maxHeartbeats 8000000 in
set_option maxRecDepth 100000 in
theorem clone_Use_ok (l : List DUse) (al : Option Addr) (cl : Nat) (hy1 : l.length ≤ 1000000) : FnM Try.prog 75 [.slice al l.length cl] (fun w => Rd tUse w al cl l) (Option Addr × Nat) (fun p => .slice p.1 l.length p.2) (fun p S w => SlO tUse S w p.1 p.2 l) := by
  refine fnM (nt := 8) (F0 := [(0, .slice al l.length cl)]) Try.func75 rfl Try.ntmps75 rfl rfl (fun w0 hpre => ?_)
  have hl := hpre
  have hlhl := hl.2.1
  refine c_seq ?_
  refine c_region ?_
  refine o_pure (p_assign (v := .slice none 0 0) rfl) rfl rfl rfl ?_
  refine o_nil ?_
  refine q_then ?_
  refine c_seq ?_
  refine c_seq ?_
  refine c_region ?_
  refine o_pure (p_move (v := .slice al l.length cl) rfl) rfl rfl rfl ?_
  refine o_pure (p_eqNil rfl rfl Try.underlying22) rfl rfl rfl ?_
  refine o_nil ?_
  refine q_then ?_
  refine c_cond (b := al.isNone) rfl (fun hc1 => ?_) (fun hc1 => ?_)
  · skip
    refine c_seq ?_
    refine c_region ?_
    refine o_pure (p_assign (v := .slice none 0 0) rfl) rfl rfl rfl ?_
    refine o_nil ?_
    refine q_then ?_
    refine c_ret ?_
    refine q_then_ret ?_
    have hr0 : ([] : List DUse) = l := by
      first | exact (rd_isNone hl (by assumption)).symm | simp
    refine q_endM (p := (none, 0)) (fun _ => False) (rt1 rfl (r_tmp rfl)) (i := 0) rfl ?_ ?_ ?_
    · exact (by have hcc := congrArg (fun (y0 : List DUse) => (.slice none y0.length 0 : Value)) hr0; exact hcc)
    · intro w hw b hb; exact hb.elim
    · intro w hw; exact Eq.mp (congrArg (fun y => SlO tUse _ w none 0 y) hr0) (SlO.nil tUse w)
  · skip
    refine c_skip ?_
    refine q_then ?_
    refine c_seq ?_
    refine c_region ?_
    refine o_buildSlice (m := 0) (T := tUse) (L := []) (vs := []) rfl rfl rfl rfl Try.underlying22 sz42 (by decide) ze42 rfl (by decide) rfl (fun S2 a3 => ?_)
    refine o_pure (p_move (v := .slice al l.length cl) rfl) rfl rfl rfl ?_
    refine o_append (i := 0) (L := []) (M := l) (T := tUse) rfl rfl rfl (rd_base (i := 1) rfl hl) Try.underlying22 Try.underlying22 (by intro k h; cases h) el42 (by intro z; simp [tUse, one1]) (by decide) (by simp only [List.length_nil]; omega) rfl (fun a5 c6 S7 => ?_)
    refine o_pure (p_assign (v := .slice a5 ([] ++ l).length c6) rfl) rfl rfl rfl ?_
    refine o_nil ?_
    refine q_then ?_
    refine c_ret ?_
    have hr0 : (([] ++ l) : List DUse) = l := by
      first | exact (rd_isNone hl (by assumption)).symm | simp
    refine q_endM (p := (a5, c6)) S7 (rt1 rfl (r_tmp rfl)) (i := 1) rfl ?_ ?_ ?_
    · exact (by have hcc := congrArg (fun (y0 : List DUse) => (.slice a5 y0.length c6 : Value)) hr0; exact hcc)
    · exact fun w hw => hw.above (i := 1) (j := 0) (by decide) rfl rfl
    · intro w hw; exact Eq.mp (congrArg (fun y => SlO tUse _ w a5 c6 y) hr0) ((hw.at (i := 0) rfl).here)

set_option maxHeartbeats 8000000 in
set_option maxRecDepth 100000 in
theorem indexFunc_Use_ok (l : List DUse) (al : Option Addr) (cl : Nat) (gf : FuncId) (kf : List Value) (f : DUse → Bool) (Pf : World → Prop) (stf : ∀ w w', Below w.heap.size w w' → Pf w → Pf w') (okf : ∀ x : DUse, Fn0 Try.prog gf (.agg #[.int .i64 x.key, .int .i64 x.count] :: kf) Pf (.bool (f x))) (hpf : HasFn Try.prog gf) : Fn0 Try.prog 76 [.slice al l.length cl, .func (.func gf) #[] kf.toArray] (fun w => Rd tUse w al cl l ∧ Pf w) (.int .i64 (idxF f l)) := by
  refine fn0 (nt := 19) (F0 := [(0, .slice al l.length cl), (1, .func (.func gf) #[] kf.toArray)]) Try.func76 rfl Try.ntmps76 rfl rfl (fun w0 hpre => ?_)
  obtain ⟨hl, hf⟩ := hpre
  have hlhl := hl.2.1
  refine c_seq ?_
  refine c_region ?_
  refine o_pure (p_assign (v := .int .i64 0) rfl) rfl rfl rfl ?_
  refine o_nil ?_
  refine q_then ?_
  refine c_seq ?_
  refine c_seq ?_
  refine c_region ?_
  refine o_pure (p_move (v := .slice al l.length cl) rfl) rfl rfl rfl ?_
  refine o_pure (p_len_slice (len := l.length) rfl rfl Try.underlying22) rfl rfl rfl ?_
  refine o_pure (p_move (v := .int .i64 0) rfl) rfl rfl rfl ?_
  refine o_nil ?_
  refine q_then ?_
  refine c_block ?_
  refine c_loop (St := Nat)
    (fun k => [(0, .slice al l.length cl), (1, .func (.func gf) #[] kf.toArray), (7, .int .i64 (l.length : Int)), (8, .int .i64 (k : Int))])
    (fun k => [base w0])
    (fun k => k ≤ l.length ∧ ∀ j (h : j < l.length), j < k → f l[j] = false)
    (fun k => l.length - k)
    0 ?_ (Sub.cons rfl (Sub.cons rfl (Sub.cons rfl (Sub.cons rfl (Sub.nil _))))) (fun _ hw => hw) ?_
  · exact ⟨Nat.zero_le _, fun j _ h => absurd h (by omega)⟩
  rintro k hI K hK1
  obtain ⟨hI1, hI2⟩ := hI
  show SC _ _ Try.prog 19 w0 _ _ [(0, .slice al l.length cl), (1, .func (.func gf) #[] kf.toArray), (7, .int .i64 (l.length : Int)), (8, .int .i64 (k : Int))] [base w0]
  refine c_seq ?_
  refine c_region ?_
  refine o_pure (p_lt (p := (k : Int)) (q := (l.length : Int)) rfl rfl) rfl rfl rfl ?_
  refine o_nil ?_
  refine q_then ?_
  refine c_seq ?_
  refine c_cond (b := decide ((k : Int) < (l.length : Int))) rfl (fun hc2 => ?_) (fun hc2 => ?_)
  · simp only [decide_eq_true_eq] at hc2
    refine c_skip ?_
    refine q_then ?_
    refine c_seq ?_
    refine c_block ?_
    refine c_seq ?_
    refine c_region ?_
    refine o_pure (p_move (v := .int .i64 (k : Int)) rfl) rfl rfl rfl ?_
    refine o_pure (p_assign (v := .int .i64 (k : Int)) rfl) rfl rfl rfl ?_
    refine o_nil ?_
    refine q_then ?_
    refine c_seq ?_
    refine c_region ?_
    refine o_pure (p_move (v := .func (.func gf) #[] kf.toArray) rfl) rfl rfl rfl ?_
    refine o_pure (p_move (v := .slice al l.length cl) rfl) rfl rfl rfl ?_
    refine o_pure (p_move (v := .int .i64 (k : Int)) rfl) rfl rfl rfl ?_
    refine o_pure (p_indexAddr (L := l) (T := tUse) (i := (k : Int)) rfl rfl (rd_base (i := 0) rfl hl) Try.underlying22 sz42 (by omega) (by omega)) rfl rfl rfl ?_
    refine o_pure (p_loadEn (i := k) (T := tUse) (L := l) (vs := [.int .i64 ((l[k]).key), .int .i64 ((l[k]).count)]) rfl (rd_base (i := 0) rfl hl) (by first | assumption | omega) sh42 rfl) rfl rfl rfl ?_
    refine o_call0V (vs := [.agg #[.int .i64 ((l[k]).key), .int .i64 ((l[k]).count)]]) (caps := kf) (v := .bool (f (l[k]))) rfl rfl (okf (l[k])) hpf (pre_base (i := 0) rfl stf hf) rfl ?_
    refine o_nil ?_
    refine q_then ?_
    refine c_cond (b := (f (l[k]))) rfl (fun hc3 => ?_) (fun hc3 => ?_)
    · skip
      refine c_seq ?_
      refine c_region ?_
      refine o_pure (p_move (v := .int .i64 (k : Int)) rfl) rfl rfl rfl ?_
      refine o_pure (p_assign (v := .int .i64 (k : Int)) rfl) rfl rfl rfl ?_
      refine o_nil ?_
      refine q_then ?_
      refine c_ret ?_
      refine q_block_ret (q_then_ret (q_then_ret (q_block_ret (q_then_ret ?_))))
      have hr0 : ((k : Int) : Int) = (idxF f l) := by
        first | exact idxF_found (by omega) (by assumption) hI2 | exact idxF_none (fun j h => hI2 j h (by omega))
      refine q_end0 (v := .int .i64 (k : Int)) (rt1 rfl (r_tmp rfl)) (i := 0) rfl ?_
      exact (by have hcc := congrArg (fun (y0 : Int) => (.int .i64 y0 : Value)) hr0; exact hcc)
    · skip
      refine c_skip ?_
      refine q_block_normal (q_then ?_)
      refine c_region ?_
      refine o_pure (p_addb (p := (k : Int)) (q := 1) rfl rfl (by omega)) rfl rfl rfl ?_
      refine o_pure (p_move (v := .int .i64 ((k : Int) + 1)) rfl) rfl rfl rfl ?_
      refine o_nil ?_
      refine q_round hK1 (k + 1) ?_ ?_ ?_ ?_
      · clear hK1
        refine ⟨by omega, fun j h h2 => ?_⟩
        by_cases e : j = k
        · subst e; assumption
        · exact hI2 j h (by omega)
      · (try dsimp only); omega
      · exact Sub.cons rfl (Sub.cons rfl (Sub.cons rfl (Sub.cons rfl (Sub.nil _))))
      · exact fun _ hw => HeapIs.pick hw [0] (by decide) rfl
  · simp only [decide_eq_false_iff_not, Int.not_lt] at hc2
    refine c_exit ?_
    refine q_then_exit (q_then_exit (q_block_exit (q_then ?_)))
    refine c_seq ?_
    refine c_region ?_
    refine o_pure (p_assign (v := .int .i64 (-1)) rfl) rfl rfl rfl ?_
    refine o_nil ?_
    refine q_then ?_
    refine c_ret ?_
    have hr0 : ((-1) : Int) = (idxF f l) := by
      first | exact idxF_found (by omega) (by assumption) hI2 | exact idxF_none (fun j h => hI2 j h (by omega))
    refine q_end0 (v := .int .i64 (-1)) (rt1 rfl (r_tmp rfl)) (i := 0) rfl ?_
    exact (by have hcc := congrArg (fun (y0 : Int) => (.int .i64 y0 : Value)) hr0; exact hcc)

set_option maxHeartbeats 8000000 in
set_option maxRecDepth 100000 in
theorem containsFunc_Use_ok (l : List DUse) (al : Option Addr) (cl : Nat) (gf : FuncId) (kf : List Value) (f : DUse → Bool) (Pf : World → Prop) (stf : ∀ w w', Below w.heap.size w w' → Pf w → Pf w') (okf : ∀ x : DUse, Fn0 Try.prog gf (.agg #[.int .i64 x.key, .int .i64 x.count] :: kf) Pf (.bool (f x))) (hpf : HasFn Try.prog gf) : Fn0 Try.prog 58 [.slice al l.length cl, .func (.func gf) #[] kf.toArray] (fun w => Rd tUse w al cl l ∧ Pf w) (.bool (l.any f)) := by
  refine fn0 (nt := 9) (F0 := [(0, .slice al l.length cl), (1, .func (.func gf) #[] kf.toArray)]) Try.func58 rfl Try.ntmps58 rfl rfl (fun w0 hpre => ?_)
  obtain ⟨hl, hf⟩ := hpre
  have hlhl := hl.2.1
  refine c_seq ?_
  refine c_region ?_
  refine o_pure (p_assign (v := .bool false) rfl) rfl rfl rfl ?_
  refine o_nil ?_
  refine q_then ?_
  refine c_seq ?_
  refine c_region ?_
  refine o_pure (p_move (v := .slice al l.length cl) rfl) rfl rfl rfl ?_
  refine o_pure (p_move (v := .func (.func gf) #[] kf.toArray) rfl) rfl rfl rfl ?_
  refine o_call0 (v := .int .i64 (idxF f l)) rfl (indexFunc_Use_ok l al cl gf kf f Pf stf okf hpf) hf76 (fun w hw => ⟨(rd_base (i := 0) rfl hl) w hw, pre_base (i := 0) rfl stf hf w hw⟩) rfl ?_
  refine o_pure (p_ge (p := (idxF f l)) (q := 0) rfl rfl) rfl rfl rfl ?_
  refine o_pure (p_assign (v := .bool (decide (0 ≤ (idxF f l)))) rfl) rfl rfl rfl ?_
  refine o_nil ?_
  refine q_then ?_
  refine c_ret ?_
  have hr0 : (decide (0 ≤ (idxF f l)) : Bool) = (l.any f) := by
    exact (any_idxF f l).symm
  refine q_end0 (v := .bool (decide (0 ≤ (idxF f l)))) (rt1 rfl (r_tmp rfl)) (i := 0) rfl ?_
  exact (by have hcc := congrArg (fun (y0 : Bool) => (.bool y0 : Value)) hr0; exact hcc)

set_option maxHeartbeats 8000000 in
set_option maxRecDepth 100000 in
theorem delete_Use_ok (l : List DUse) (al : Option Addr) (cl : Nat) (Sl : Nat → Prop) (i : Int) (j : Int) (hy1 : 0 ≤ i ∧ i ≤ j ∧ j ≤ (l.length : Int)) : FnX Try.prog 92 [.slice al l.length cl, .int .i64 i, .int .i64 j] [own tUse Sl al cl l] (fun _ => True) (Option Addr × Nat × (Nat → Prop)) (fun p => .slice p.1 (l.take i.toNat ++ l.drop j.toNat).length p.2.1) (fun p => [own tUse p.2.2 p.1 p.2.1 (l.take i.toNat ++ l.drop j.toNat)]) := by
  refine fnX (nt := 33) (F0 := [(0, .slice al l.length cl), (1, .int .i64 i), (2, .int .i64 j)]) Try.func92 rfl Try.ntmps92 rfl rfl (fun w0 hpre => ?_)
  refine c_know (fun w hw => own_len (i := 1) (T := tUse) hw rfl) (fun hlown_l => ?_)
  obtain ⟨hcown_l, hlown_l⟩ := hlown_l
  refine c_seq ?_
  refine c_region ?_
  refine o_pure (p_assign (v := .slice none 0 0) rfl) rfl rfl rfl ?_
  refine o_nil ?_
  refine q_then ?_
  refine c_seq ?_
  refine c_region ?_
  refine o_pure (p_move (v := .slice al l.length cl) rfl) rfl rfl rfl ?_
  refine o_pure (p_move (v := .int .i64 i) rfl) rfl rfl rfl ?_
  refine o_pure (p_move (v := .int .i64 j) rfl) rfl rfl rfl ?_
  refine o_pure (p_move (v := .slice al l.length cl) rfl) rfl rfl rfl ?_
  refine o_pure (p_len_slice (len := l.length) rfl rfl Try.underlying22) rfl rfl rfl ?_
  refine o_pure (p_sliceLHM (L := l) (T := tUse) (l := i) (h := j) (m := (l.length : Int)) rfl rfl rfl rfl Try.underlying22 sz42 (by omega) (by omega) (by omega) (by omega) (rd_own (i := 1) rfl)) rfl rfl rfl ?_
  refine o_nil ?_
  refine q_then ?_
  refine c_seq ?_
  refine c_seq ?_
  refine c_region ?_
  refine o_pure (p_move (v := .int .i64 i) rfl) rfl rfl rfl ?_
  refine o_pure (p_move (v := .int .i64 j) rfl) rfl rfl rfl ?_
  refine o_pure (p_eq (p := i) (q := j) rfl rfl) rfl rfl rfl ?_
  refine o_nil ?_
  refine q_then ?_
  refine c_cond (b := (i == j)) rfl (fun hc1 => ?_) (fun hc1 => ?_)
  · simp only [beq_iff_eq] at hc1
    refine c_seq ?_
    refine c_region ?_
    refine o_pure (p_move (v := .slice al l.length cl) rfl) rfl rfl rfl ?_
    refine o_pure (p_assign (v := .slice al l.length cl) rfl) rfl rfl rfl ?_
    refine o_nil ?_
    refine q_then ?_
    refine c_ret ?_
    refine q_then_ret ?_
    have hr0 : (l : List DUse) = (l.take i.toNat ++ l.drop j.toNat) := by
      first | rfl | (have hij : i = j := (by assumption); subst hij; exact (List.take_append_drop _ _).symm)
    refine q_endX (p := (al, cl, Sl)) (rt1 rfl (r_tmp rfl)) ?_ (fun w hw => ?_)
    · exact (by have hcc := congrArg (fun (y0 : List DUse) => (.slice al y0.length cl : Value)) hr0; exact hcc)
    · have h2 := hw.pick (H' := [outer w0 [own tUse Sl al cl l], own tUse Sl al cl l]) [0, 1] (by decide) rfl
      exact Eq.mp (congrArg (fun z => HeapIs w0 ((outer w0 [own tUse Sl al cl l]) :: z) w) ((by have hcc := congrArg (fun (y0 : List DUse) => ([own tUse Sl al cl y0] : List Ent)) hr0; exact hcc))) h2
  · simp only [beq_eq_false_iff_ne, ne_eq] at hc1
    refine c_skip ?_
    refine q_then ?_
    refine c_seq ?_
    refine c_region ?_
    refine o_pure (p_move (v := .slice al l.length cl) rfl) rfl rfl rfl ?_
    refine o_pure (p_len_slice (len := l.length) rfl rfl Try.underlying22) rfl rfl rfl ?_
    refine o_pure (p_assign (v := .int .i64 (l.length : Int)) rfl) rfl rfl rfl ?_
    refine o_nil ?_
    refine q_then ?_
    refine c_seq ?_
    refine c_cut (G := Unit) (fun _ => [(0, .slice al ((l.take i.toNat) ++ (l.drop j.toNat)).length cl), (7, .int .i64 (l.length : Int))]) (fun _ => [outer w0 [own tUse Sl al cl l], own tUse Sl al cl ((l.take i.toNat) ++ (l.drop j.toNat))]) (fun K hK3 => ?_) ?_
    · refine c_held hmix [outer w0 [own tUse Sl al cl l]] rfl rfl ?_
      refine h_take (i := 0) (ls := #[true, false, false, false, false, false, false, false]) rfl (by kernel_rfl) (by kernel_rfl) (by kernel_rfl) (fun _ _ _ h => h) (p_move (v := .slice al l.length cl) rfl) rfl rfl rfl (fun _ hw => HeapIs.drop hw (List.Sublist.cons_cons _ (List.Sublist.cons _ (List.Sublist.slnil)))) rfl ?_
      refine h_take (i := 1) (ls := #[true, true, false, false, false, false, false, false]) rfl (by kernel_rfl) (by kernel_rfl) (by kernel_rfl) (fun _ _ _ h => h) (p_move (v := .int .i64 i) rfl) rfl rfl rfl (fun _ hw => HeapIs.drop hw (List.Sublist.cons_cons _ (List.Sublist.cons _ (List.Sublist.slnil)))) rfl ?_
      refine h_take (i := 3) (ls := #[true, true, false, true, false, false, false, false]) rfl (by kernel_rfl) (by kernel_rfl) (by kernel_rfl) (fun _ _ _ h => h) (p_move (v := .slice al l.length cl) rfl) rfl rfl rfl (fun _ hw => HeapIs.drop hw (List.Sublist.cons_cons _ (List.Sublist.cons _ (List.Sublist.slnil)))) rfl ?_
      refine h_take (i := 4) (ls := #[true, true, false, true, true, false, false, false]) rfl (by kernel_rfl) (by kernel_rfl) (by kernel_rfl) (fun _ _ _ h => h) (p_move (v := .int .i64 j) rfl) rfl rfl rfl (fun _ hw => HeapIs.drop hw (List.Sublist.cons_cons _ (List.Sublist.cons _ (List.Sublist.slnil)))) rfl ?_
      refine h_two (i := 2) (j := 5) (ls := #[true, true, true, true, true, false, false, false]) (ls' := #[true, true, false, true, true, true, false, false]) (by kernel_rfl) rfl rfl rfl rfl ?_ ?_
      · refine o_pure (p_sliceH (L := l) (T := tUse) (h := i) rfl rfl Try.underlying22 sz42 (by omega) (by omega) (rd_own (i := 1) rfl)) rfl rfl rfl ?_
        refine o_nil ?_
        refine h_next (fun _ hw => HeapIs.drop hw (List.Sublist.cons_cons _ (List.Sublist.cons _ (List.Sublist.slnil)))) ?_
        refine h_one (i := 5) (ls := #[true, true, true, true, true, true, false, false]) (by kernel_rfl) rfl rfl ?_
        refine o_pure (p_sliceL (L := l) (T := tUse) (l := j) rfl rfl Try.underlying22 sz42 (by omega) (by omega) (rd_own (i := 1) rfl)) rfl rfl rfl ?_
        refine o_nil ?_
        refine h_next (fun _ hw => HeapIs.drop hw (List.Sublist.cons_cons _ (List.Sublist.cons _ (List.Sublist.slnil)))) ?_
        refine h_one (i := 6) (ls := #[true, true, true, true, true, true, true, false]) (by kernel_rfl) rfl rfl ?_
        refine o_appendIn (i := 1) (m := i.toNat) (L := l) (M := (l.drop j.toNat)) (T := tUse) rfl rfl rfl (by omega) (rd_dropC (l := j.toNat) (rd_own (i := 1) rfl) (by omega)) Try.underlying22 Try.underlying22 (by intro k h; cases h) el42 (by intro z; simp [tUse, one1]) (by first | (simp only [List.length_drop]; omega) | (simp; omega)) rfl ?_
        refine o_nil ?_
        refine h_next (fun _ hw => HeapIs.drop hw (List.Sublist.cons_cons _ (List.Sublist.cons _ (List.Sublist.slnil)))) ?_
        refine h_take (i := 7) (ls := #[true, true, true, true, true, true, true, true]) rfl (by kernel_rfl) (by kernel_rfl) (by kernel_rfl) (fun _ _ _ h => h) (p_assign (v := .slice al ((l.take i.toNat) ++ (l.drop j.toNat)).length cl) rfl) rfl rfl rfl (fun _ hw => HeapIs.drop hw (List.Sublist.cons_cons _ (List.Sublist.cons _ (List.Sublist.slnil)))) rfl ?_
        refine h_done (by kernel_rfl) ?_
        refine q_kont hK3 () (Sub.cons rfl (Sub.cons rfl (Sub.nil _))) (fun _ hw => HeapIs.pick hw [0, 1] (by decide) rfl)
      · refine o_pure (p_sliceL (L := l) (T := tUse) (l := j) rfl rfl Try.underlying22 sz42 (by omega) (by omega) (rd_own (i := 1) rfl)) rfl rfl rfl ?_
        refine o_nil ?_
        refine h_next (fun _ hw => HeapIs.drop hw (List.Sublist.cons_cons _ (List.Sublist.cons _ (List.Sublist.slnil)))) ?_
        refine h_one (i := 2) (ls := #[true, true, true, true, true, true, false, false]) (by kernel_rfl) rfl rfl ?_
        refine o_pure (p_sliceH (L := l) (T := tUse) (h := i) rfl rfl Try.underlying22 sz42 (by omega) (by omega) (rd_own (i := 1) rfl)) rfl rfl rfl ?_
        refine o_nil ?_
        refine h_next (fun _ hw => HeapIs.drop hw (List.Sublist.cons_cons _ (List.Sublist.cons _ (List.Sublist.slnil)))) ?_
        refine h_one (i := 6) (ls := #[true, true, true, true, true, true, true, false]) (by kernel_rfl) rfl rfl ?_
        refine o_appendIn (i := 1) (m := i.toNat) (L := l) (M := (l.drop j.toNat)) (T := tUse) rfl rfl rfl (by omega) (rd_dropC (l := j.toNat) (rd_own (i := 1) rfl) (by omega)) Try.underlying22 Try.underlying22 (by intro k h; cases h) el42 (by intro z; simp [tUse, one1]) (by first | (simp only [List.length_drop]; omega) | (simp; omega)) rfl ?_
        refine o_nil ?_
        refine h_next (fun _ hw => HeapIs.drop hw (List.Sublist.cons_cons _ (List.Sublist.cons _ (List.Sublist.slnil)))) ?_
        refine h_take (i := 7) (ls := #[true, true, true, true, true, true, true, true]) rfl (by kernel_rfl) (by kernel_rfl) (by kernel_rfl) (fun _ _ _ h => h) (p_assign (v := .slice al ((l.take i.toNat) ++ (l.drop j.toNat)).length cl) rfl) rfl rfl rfl (fun _ hw => HeapIs.drop hw (List.Sublist.cons_cons _ (List.Sublist.cons _ (List.Sublist.slnil)))) rfl ?_
        refine h_done (by kernel_rfl) ?_
        refine q_kont hK3 () (Sub.cons rfl (Sub.cons rfl (Sub.nil _))) (fun _ hw => HeapIs.pick hw [0, 1] (by decide) rfl)
    rintro _
    show SQ _ 33 w0 _ _ [(0, .slice al ((l.take i.toNat) ++ (l.drop j.toNat)).length cl), (7, .int .i64 (l.length : Int))] [outer w0 [own tUse Sl al cl l], own tUse Sl al cl ((l.take i.toNat) ++ (l.drop j.toNat))]
    refine q_cast (F' := [(0, .slice al ((l.take i.toNat) ++ (l.drop j.toNat)).length cl), (7, .int .i64 (l.length : Int))]) (H := [outer w0 [own tUse Sl al cl l], own tUse Sl al cl ((l.take i.toNat) ++ (l.drop j.toNat))]) (H' := [outer w0 [own tUse Sl al cl l], own tUse Sl al cl ((l.take i.toNat) ++ (l.drop j.toNat))]) (Sub.cons rfl (Sub.cons rfl (Sub.nil _))) (by rfl) ?_
    refine q_then ?_
    refine c_seq ?_
    refine c_region ?_
    refine o_pure (p_move (v := .slice al ((l.take i.toNat) ++ (l.drop j.toNat)).length cl) rfl) rfl rfl rfl ?_
    refine o_pure (p_move (v := .slice al ((l.take i.toNat) ++ (l.drop j.toNat)).length cl) rfl) rfl rfl rfl ?_
    refine o_pure (p_len_slice (len := ((l.take i.toNat) ++ (l.drop j.toNat)).length) rfl rfl Try.underlying22) rfl rfl rfl ?_
    refine o_pure (p_move (v := .int .i64 (l.length : Int)) rfl) rfl rfl rfl ?_
    refine o_pure (p_sliceTail (i := 1) (L := ((l.take i.toNat) ++ (l.drop j.toNat))) (T := tUse) (h := (l.length : Int)) (m := (l.length - (l.take i.toNat ++ l.drop j.toNat).length)) rfl rfl rfl rfl Try.underlying22 sz42 (by simp only [List.length_append, List.length_take, List.length_drop]; omega)) rfl rfl rfl ?_
    refine o_clearTail (i := 1) (T := tUse) (m := (l.length - (l.take i.toNat ++ l.drop j.toNat).length)) rfl rfl rfl Try.underlying22 ze42 rfl rfl (by first | omega | (simp only [List.length_append, List.length_take, List.length_drop]; omega)) ?_
    refine o_nil ?_
    refine q_then ?_
    refine c_seq ?_
    refine c_region ?_
    refine o_pure (p_move (v := .slice al ((l.take i.toNat) ++ (l.drop j.toNat)).length cl) rfl) rfl rfl rfl ?_
    refine o_pure (p_assign (v := .slice al ((l.take i.toNat) ++ (l.drop j.toNat)).length cl) rfl) rfl rfl rfl ?_
    refine o_nil ?_
    refine q_then ?_
    refine c_ret ?_
    have hr0 : (((l.take i.toNat) ++ (l.drop j.toNat)) : List DUse) = (l.take i.toNat ++ l.drop j.toNat) := by
      first | rfl | (have hij : i = j := (by assumption); subst hij; exact (List.take_append_drop _ _).symm)
    refine q_endX (p := (al, cl, Sl)) (rt1 rfl (r_tmp rfl)) ?_ (fun w hw => ?_)
    · exact (by have hcc := congrArg (fun (y0 : List DUse) => (.slice al y0.length cl : Value)) hr0; exact hcc)
    · have h2 := hw.pick (H' := [outer w0 [own tUse Sl al cl l], own tUse Sl al cl ((l.take i.toNat) ++ (l.drop j.toNat))]) [0, 1] (by decide) rfl
      exact Eq.mp (congrArg (fun z => HeapIs w0 ((outer w0 [own tUse Sl al cl l]) :: z) w) ((by have hcc := congrArg (fun (y0 : List DUse) => ([own tUse Sl al cl y0] : List Ent)) hr0; exact hcc))) h2
end Go.Proofs.Ytagbihjkdejdjaa
