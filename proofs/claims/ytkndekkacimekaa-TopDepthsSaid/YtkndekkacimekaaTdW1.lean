/- The walks, printed by a program from the translation and a specification. -/
import Derived.Test.YtkndekkacimekaaTdF
import Derived.Test.YtkndekkacimekaaTdLaw
namespace Go.Proofs.Ytkndekkacimekaa
open Go.Sx Go.RowKit
set_option maxHeartbeats 8000000 in
set_option maxRecDepth 100000 in
theorem clone_Int_ok (l : List Int) (al : Option Addr) (cl : Nat) (hy1 : l.length ≤ 1000000) : FnM Try.prog 93 [.slice al l.length cl] (fun w => Rd tInt w al cl l) (Option Addr × Nat) (fun p => .slice p.1 l.length p.2) (fun p S w => SlO tInt S w p.1 p.2 l) := by
  refine fnM (nt := 8) (F0 := [(0, .slice al l.length cl)]) Try.func93 rfl Try.ntmps93 rfl rfl (fun w0 hpre => ?_)
  have hl := hpre
  have hlhl := hl.2.1
  refine c_seq ?_
  refine c_region ?_
  refine o_pure (p_assign (v := .slice none 0 0) rfl) rfl rfl rfl ?_
  refine o_nil ?_
  refine q_then ?_
  refine c_seq ?_
  refine c_seq ?_
  refine c_region ?_
  refine o_pure (p_move (v := .slice al l.length cl) rfl) rfl rfl rfl ?_
  refine o_pure (p_eqNil rfl rfl Try.underlying30) rfl rfl rfl ?_
  refine o_nil ?_
  refine q_then ?_
  refine c_cond (b := al.isNone) rfl (fun hc1 => ?_) (fun hc1 => ?_)
  · skip
    refine c_seq ?_
    refine c_region ?_
    refine o_pure (p_assign (v := .slice none 0 0) rfl) rfl rfl rfl ?_
    refine o_nil ?_
    refine q_then ?_
    refine c_ret ?_
    refine q_then_ret ?_
    have hr0 : ([] : List Int) = l := by
      first | exact (rd_isNone hl (by assumption)).symm | simp
    refine q_endM (p := (none, 0)) (fun _ => False) (rt1 rfl (r_tmp rfl)) (i := 0) rfl ?_ ?_ ?_
    · exact (by have hcc := congrArg (fun (y0 : List Int) => (.slice none y0.length 0 : Value)) hr0; exact hcc)
    · intro w hw b hb; exact hb.elim
    · intro w hw; exact Eq.mp (congrArg (fun y => SlO tInt _ w none 0 y) hr0) (SlO.nil tInt w)
  · skip
    refine c_skip ?_
    refine q_then ?_
    refine c_seq ?_
    refine c_region ?_
    refine o_buildSlice (m := 0) (T := tInt) (L := []) (vs := []) rfl rfl rfl rfl Try.underlying30 sz3 (by decide) ze3 rfl (by decide) rfl (fun S2 a3 => ?_)
    refine o_pure (p_move (v := .slice al l.length cl) rfl) rfl rfl rfl ?_
    refine o_append (i := 0) (L := []) (M := l) (T := tInt) rfl rfl rfl (rd_base (i := 1) rfl hl) Try.underlying30 Try.underlying30 (by intro k h; cases h) el3 (by intro z; simp [tInt, one1]) (by decide) (by simp only [List.length_nil]; omega) rfl (fun a5 c6 S7 => ?_)
    refine o_pure (p_assign (v := .slice a5 ([] ++ l).length c6) rfl) rfl rfl rfl ?_
    refine o_nil ?_
    refine q_then ?_
    refine c_ret ?_
    have hr0 : (([] ++ l) : List Int) = l := by
      first | exact (rd_isNone hl (by assumption)).symm | simp
    refine q_endM (p := (a5, c6)) S7 (rt1 rfl (r_tmp rfl)) (i := 1) rfl ?_ ?_ ?_
    · exact (by have hcc := congrArg (fun (y0 : List Int) => (.slice a5 y0.length c6 : Value)) hr0; exact hcc)
    · exact fun w hw => hw.above (i := 1) (j := 0) (by decide) rfl rfl
    · intro w hw; exact Eq.mp (congrArg (fun y => SlO tInt _ w a5 c6 y) hr0) ((hw.at (i := 0) rfl).here)

set_option maxHeartbeats 8000000 in
set_option maxRecDepth 100000 in
theorem index_int_ok (l : List Int) (al : Option Addr) (cl : Nat) (v : Int) : Fn0 Try.prog 88 [.slice al l.length cl, .int .i64 v] (fun w => Rd tInt w al cl l) (.int .i64 (idxF (fun x : Int => (x == v)) l)) := by
  refine fn0 (nt := 19) (F0 := [(0, .slice al l.length cl), (1, .int .i64 v)]) Try.func88 rfl Try.ntmps88 rfl rfl (fun w0 hpre => ?_)
  have hl := hpre
  have hlhl := hl.2.1
  refine c_seq ?_
  refine c_region ?_
  refine o_pure (p_assign (v := .int .i64 0) rfl) rfl rfl rfl ?_
  refine o_nil ?_
  refine q_then ?_
  refine c_seq ?_
  refine c_seq ?_
  refine c_region ?_
  refine o_pure (p_move (v := .slice al l.length cl) rfl) rfl rfl rfl ?_
  refine o_pure (p_len_slice (len := l.length) rfl rfl Try.underlying30) rfl rfl rfl ?_
  refine o_pure (p_move (v := .int .i64 0) rfl) rfl rfl rfl ?_
  refine o_nil ?_
  refine q_then ?_
  refine c_block ?_
  refine c_loop (St := Nat)
    (fun k => [(0, .slice al l.length cl), (1, .int .i64 v), (7, .int .i64 (l.length : Int)), (8, .int .i64 (k : Int))])
    (fun k => [base w0])
    (fun k => k ≤ l.length ∧ ∀ j (h : j < l.length), j < k → l[j] ≠ v)
    (fun k => l.length - k)
    0 ?_ (Sub.cons rfl (Sub.cons rfl (Sub.cons rfl (Sub.cons rfl (Sub.nil _))))) (fun _ hw => hw) ?_
  · exact ⟨Nat.zero_le _, fun j _ h => absurd h (by omega)⟩
  rintro k hI K hK1
  show SC _ _ Try.prog 19 w0 _ _ [(0, .slice al l.length cl), (1, .int .i64 v), (7, .int .i64 (l.length : Int)), (8, .int .i64 (k : Int))] [base w0]
  refine c_seq ?_
  refine c_region ?_
  refine o_pure (p_lt (p := (k : Int)) (q := (l.length : Int)) rfl rfl) rfl rfl rfl ?_
  refine o_nil ?_
  refine q_then ?_
  refine c_seq ?_
  refine c_cond (b := decide ((k : Int) < (l.length : Int))) rfl (fun hc2 => ?_) (fun hc2 => ?_)
  · simp only [decide_eq_true_eq] at hc2
    refine c_skip ?_
    refine q_then ?_
    refine c_seq ?_
    refine c_block ?_
    refine c_seq ?_
    refine c_region ?_
    refine o_pure (p_move (v := .int .i64 (k : Int)) rfl) rfl rfl rfl ?_
    refine o_pure (p_assign (v := .int .i64 (k : Int)) rfl) rfl rfl rfl ?_
    refine o_nil ?_
    refine q_then ?_
    refine c_seq ?_
    refine c_region ?_
    refine o_pure (p_move (v := .int .i64 v) rfl) rfl rfl rfl ?_
    refine o_pure (p_move (v := .slice al l.length cl) rfl) rfl rfl rfl ?_
    refine o_pure (p_move (v := .int .i64 (k : Int)) rfl) rfl rfl rfl ?_
    refine o_pure (p_indexAddr (L := l) (T := tInt) (i := (k : Int)) rfl rfl (rd_base (i := 0) rfl hl) Try.underlying30 sz3 (by omega) (by omega)) rfl rfl rfl ?_
    refine o_pure (p_loadE1 (i := k) (T := tInt) (L := l) (v := .int .i64 (l[k])) rfl (rd_base (i := 0) rfl hl) (by first | assumption | omega) sh3 rfl) rfl rfl rfl ?_
    refine o_pure (p_eq (p := v) (q := l[k]) rfl rfl) rfl rfl rfl ?_
    refine o_nil ?_
    refine q_then ?_
    refine c_cond (b := (v == l[k])) rfl (fun hc3 => ?_) (fun hc3 => ?_)
    · simp only [beq_iff_eq] at hc3
      refine c_seq ?_
      refine c_region ?_
      refine o_pure (p_move (v := .int .i64 (k : Int)) rfl) rfl rfl rfl ?_
      refine o_pure (p_assign (v := .int .i64 (k : Int)) rfl) rfl rfl rfl ?_
      refine o_nil ?_
      refine q_then ?_
      refine c_ret ?_
      refine q_block_ret (q_then_ret (q_then_ret (q_block_ret (q_then_ret ?_))))
      have hr0 : ((k : Int) : Int) = (idxF (fun x : Int => (x == v)) l) := by
        first | exact idxF_found (by omega) (by simp_all) (fun j h h2 => by simpa using hI.2 j h h2) | exact idxF_none (fun j h => by simpa using hI.2 j h (by omega))
      refine q_end0 (v := .int .i64 (k : Int)) (rt1 rfl (r_tmp rfl)) (i := 0) rfl ?_
      exact (by have hcc := congrArg (fun (y0 : Int) => (.int .i64 y0 : Value)) hr0; exact hcc)
    · simp only [beq_eq_false_iff_ne, ne_eq] at hc3
      refine c_skip ?_
      refine q_block_normal (q_then ?_)
      refine c_region ?_
      refine o_pure (p_addb (p := (k : Int)) (q := 1) rfl rfl (by omega)) rfl rfl rfl ?_
      refine o_pure (p_move (v := .int .i64 ((k : Int) + 1)) rfl) rfl rfl rfl ?_
      refine o_nil ?_
      refine q_round hK1 (k + 1) ?_ ?_ ?_ ?_
      · clear hK1
        refine ⟨by omega, fun j h h2 => ?_⟩
        by_cases e : j = k
        · subst e; intro h9; simp_all
        · exact hI.2 j h (by omega)
      · (try dsimp only); omega
      · exact Sub.cons rfl (Sub.cons rfl (Sub.cons rfl (Sub.cons rfl (Sub.nil _))))
      · exact fun _ hw => HeapIs.pick hw [0] (by decide) rfl
  · simp only [decide_eq_false_iff_not, Int.not_lt] at hc2
    refine c_exit ?_
    refine q_then_exit (q_then_exit (q_block_exit (q_then ?_)))
    refine c_seq ?_
    refine c_region ?_
    refine o_pure (p_assign (v := .int .i64 (-1)) rfl) rfl rfl rfl ?_
    refine o_nil ?_
    refine q_then ?_
    refine c_ret ?_
    have hr0 : ((-1) : Int) = (idxF (fun x : Int => (x == v)) l) := by
      first | exact idxF_found (by omega) (by simp_all) (fun j h h2 => by simpa using hI.2 j h h2) | exact idxF_none (fun j h => by simpa using hI.2 j h (by omega))
    refine q_end0 (v := .int .i64 (-1)) (rt1 rfl (r_tmp rfl)) (i := 0) rfl ?_
    exact (by have hcc := congrArg (fun (y0 : Int) => (.int .i64 y0 : Value)) hr0; exact hcc)

set_option maxHeartbeats 8000000 in
set_option maxRecDepth 100000 in
theorem delete_Int_ok (l : List Int) (al : Option Addr) (cl : Nat) (Sl : Nat → Prop) (i : Int) (j : Int) (hy1 : 0 ≤ i ∧ i ≤ j ∧ j ≤ (l.length : Int)) : FnX Try.prog 89 [.slice al l.length cl, .int .i64 i, .int .i64 j] [own tInt Sl al cl l] (fun _ => True) (Option Addr × Nat × (Nat → Prop)) (fun p => .slice p.1 (l.take i.toNat ++ l.drop j.toNat).length p.2.1) (fun p => [own tInt p.2.2 p.1 p.2.1 (l.take i.toNat ++ l.drop j.toNat)]) := by
  refine fnX (nt := 33) (F0 := [(0, .slice al l.length cl), (1, .int .i64 i), (2, .int .i64 j)]) Try.func89 rfl Try.ntmps89 rfl rfl (fun w0 hpre => ?_)
  refine c_know (fun w hw => own_len (i := 1) (T := tInt) hw rfl) (fun hlown_l => ?_)
  obtain ⟨hcown_l, hlown_l⟩ := hlown_l
  refine c_seq ?_
  refine c_region ?_
  refine o_pure (p_assign (v := .slice none 0 0) rfl) rfl rfl rfl ?_
  refine o_nil ?_
  refine q_then ?_
  refine c_seq ?_
  refine c_region ?_
  refine o_pure (p_move (v := .slice al l.length cl) rfl) rfl rfl rfl ?_
  refine o_pure (p_move (v := .int .i64 i) rfl) rfl rfl rfl ?_
  refine o_pure (p_move (v := .int .i64 j) rfl) rfl rfl rfl ?_
  refine o_pure (p_move (v := .slice al l.length cl) rfl) rfl rfl rfl ?_
  refine o_pure (p_len_slice (len := l.length) rfl rfl Try.underlying30) rfl rfl rfl ?_
  refine o_pure (p_sliceLHM (L := l) (T := tInt) (l := i) (h := j) (m := (l.length : Int)) rfl rfl rfl rfl Try.underlying30 sz3 (by omega) (by omega) (by omega) (by omega) (rd_own (i := 1) rfl)) rfl rfl rfl ?_
  refine o_nil ?_
  refine q_then ?_
  refine c_seq ?_
  refine c_seq ?_
  refine c_region ?_
  refine o_pure (p_move (v := .int .i64 i) rfl) rfl rfl rfl ?_
  refine o_pure (p_move (v := .int .i64 j) rfl) rfl rfl rfl ?_
  refine o_pure (p_eq (p := i) (q := j) rfl rfl) rfl rfl rfl ?_
  refine o_nil ?_
  refine q_then ?_
  refine c_cond (b := (i == j)) rfl (fun hc1 => ?_) (fun hc1 => ?_)
  · simp only [beq_iff_eq] at hc1
    refine c_seq ?_
    refine c_region ?_
    refine o_pure (p_move (v := .slice al l.length cl) rfl) rfl rfl rfl ?_
    refine o_pure (p_assign (v := .slice al l.length cl) rfl) rfl rfl rfl ?_
    refine o_nil ?_
    refine q_then ?_
    refine c_ret ?_
    refine q_then_ret ?_
    have hr0 : (l : List Int) = (l.take i.toNat ++ l.drop j.toNat) := by
      first | rfl | (have hij : i = j := (by assumption); subst hij; exact (List.take_append_drop _ _).symm)
    refine q_endX (p := (al, cl, Sl)) (rt1 rfl (r_tmp rfl)) ?_ (fun w hw => ?_)
    · exact (by have hcc := congrArg (fun (y0 : List Int) => (.slice al y0.length cl : Value)) hr0; exact hcc)
    · have h2 := hw.pick (H' := [outer w0 [own tInt Sl al cl l], own tInt Sl al cl l]) [0, 1] (by decide) rfl
      exact Eq.mp (congrArg (fun z => HeapIs w0 ((outer w0 [own tInt Sl al cl l]) :: z) w) ((by have hcc := congrArg (fun (y0 : List Int) => ([own tInt Sl al cl y0] : List Ent)) hr0; exact hcc))) h2
  · simp only [beq_eq_false_iff_ne, ne_eq] at hc1
    refine c_skip ?_
    refine q_then ?_
    refine c_seq ?_
    refine c_region ?_
    refine o_pure (p_move (v := .slice al l.length cl) rfl) rfl rfl rfl ?_
    refine o_pure (p_len_slice (len := l.length) rfl rfl Try.underlying30) rfl rfl rfl ?_
    refine o_pure (p_assign (v := .int .i64 (l.length : Int)) rfl) rfl rfl rfl ?_
    refine o_nil ?_
    refine q_then ?_
    refine c_seq ?_
    refine c_cut (G := Unit) (fun _ => [(0, .slice al ((l.take i.toNat) ++ (l.drop j.toNat)).length cl), (7, .int .i64 (l.length : Int))]) (fun _ => [outer w0 [own tInt Sl al cl l], own tInt Sl al cl ((l.take i.toNat) ++ (l.drop j.toNat))]) (fun K hK3 => ?_) ?_
    · refine c_held hmix [outer w0 [own tInt Sl al cl l]] rfl rfl ?_
      refine h_take (i := 0) (ls := #[true, false, false, false, false, false, false, false]) rfl (by kernel_rfl) (by kernel_rfl) (by kernel_rfl) (fun _ _ _ h => h) (p_move (v := .slice al l.length cl) rfl) rfl rfl rfl (fun _ hw => HeapIs.drop hw (List.Sublist.cons_cons _ (List.Sublist.cons _ (List.Sublist.slnil)))) rfl ?_
      refine h_take (i := 1) (ls := #[true, true, false, false, false, false, false, false]) rfl (by kernel_rfl) (by kernel_rfl) (by kernel_rfl) (fun _ _ _ h => h) (p_move (v := .int .i64 i) rfl) rfl rfl rfl (fun _ hw => HeapIs.drop hw (List.Sublist.cons_cons _ (List.Sublist.cons _ (List.Sublist.slnil)))) rfl ?_
      refine h_take (i := 3) (ls := #[true, true, false, true, false, false, false, false]) rfl (by kernel_rfl) (by kernel_rfl) (by kernel_rfl) (fun _ _ _ h => h) (p_move (v := .slice al l.length cl) rfl) rfl rfl rfl (fun _ hw => HeapIs.drop hw (List.Sublist.cons_cons _ (List.Sublist.cons _ (List.Sublist.slnil)))) rfl ?_
      refine h_take (i := 4) (ls := #[true, true, false, true, true, false, false, false]) rfl (by kernel_rfl) (by kernel_rfl) (by kernel_rfl) (fun _ _ _ h => h) (p_move (v := .int .i64 j) rfl) rfl rfl rfl (fun _ hw => HeapIs.drop hw (List.Sublist.cons_cons _ (List.Sublist.cons _ (List.Sublist.slnil)))) rfl ?_
      refine h_two (i := 2) (j := 5) (ls := #[true, true, true, true, true, false, false, false]) (ls' := #[true, true, false, true, true, true, false, false]) (by kernel_rfl) rfl rfl rfl rfl ?_ ?_
      · refine o_pure (p_sliceH (L := l) (T := tInt) (h := i) rfl rfl Try.underlying30 sz3 (by omega) (by omega) (rd_own (i := 1) rfl)) rfl rfl rfl ?_
        refine o_nil ?_
        refine h_next (fun _ hw => HeapIs.drop hw (List.Sublist.cons_cons _ (List.Sublist.cons _ (List.Sublist.slnil)))) ?_
        refine h_one (i := 5) (ls := #[true, true, true, true, true, true, false, false]) (by kernel_rfl) rfl rfl ?_
        refine o_pure (p_sliceL (L := l) (T := tInt) (l := j) rfl rfl Try.underlying30 sz3 (by omega) (by omega) (rd_own (i := 1) rfl)) rfl rfl rfl ?_
        refine o_nil ?_
        refine h_next (fun _ hw => HeapIs.drop hw (List.Sublist.cons_cons _ (List.Sublist.cons _ (List.Sublist.slnil)))) ?_
        refine h_one (i := 6) (ls := #[true, true, true, true, true, true, true, false]) (by kernel_rfl) rfl rfl ?_
        refine o_appendIn (i := 1) (m := i.toNat) (L := l) (M := (l.drop j.toNat)) (T := tInt) rfl rfl rfl (by omega) (rd_dropC (l := j.toNat) (rd_own (i := 1) rfl) (by omega)) Try.underlying30 Try.underlying30 (by intro k h; cases h) el3 (by intro z; simp [tInt, one1]) (by first | (simp only [List.length_drop]; omega) | (simp; omega)) rfl ?_
        refine o_nil ?_
        refine h_next (fun _ hw => HeapIs.drop hw (List.Sublist.cons_cons _ (List.Sublist.cons _ (List.Sublist.slnil)))) ?_
        refine h_take (i := 7) (ls := #[true, true, true, true, true, true, true, true]) rfl (by kernel_rfl) (by kernel_rfl) (by kernel_rfl) (fun _ _ _ h => h) (p_assign (v := .slice al ((l.take i.toNat) ++ (l.drop j.toNat)).length cl) rfl) rfl rfl rfl (fun _ hw => HeapIs.drop hw (List.Sublist.cons_cons _ (List.Sublist.cons _ (List.Sublist.slnil)))) rfl ?_
        refine h_done (by kernel_rfl) ?_
        refine q_kont hK3 () (Sub.cons rfl (Sub.cons rfl (Sub.nil _))) (fun _ hw => HeapIs.pick hw [0, 1] (by decide) rfl)
      · refine o_pure (p_sliceL (L := l) (T := tInt) (l := j) rfl rfl Try.underlying30 sz3 (by omega) (by omega) (rd_own (i := 1) rfl)) rfl rfl rfl ?_
        refine o_nil ?_
        refine h_next (fun _ hw => HeapIs.drop hw (List.Sublist.cons_cons _ (List.Sublist.cons _ (List.Sublist.slnil)))) ?_
        refine h_one (i := 2) (ls := #[true, true, true, true, true, true, false, false]) (by kernel_rfl) rfl rfl ?_
        refine o_pure (p_sliceH (L := l) (T := tInt) (h := i) rfl rfl Try.underlying30 sz3 (by omega) (by omega) (rd_own (i := 1) rfl)) rfl rfl rfl ?_
        refine o_nil ?_
        refine h_next (fun _ hw => HeapIs.drop hw (List.Sublist.cons_cons _ (List.Sublist.cons _ (List.Sublist.slnil)))) ?_
        refine h_one (i := 6) (ls := #[true, true, true, true, true, true, true, false]) (by kernel_rfl) rfl rfl ?_
        refine o_appendIn (i := 1) (m := i.toNat) (L := l) (M := (l.drop j.toNat)) (T := tInt) rfl rfl rfl (by omega) (rd_dropC (l := j.toNat) (rd_own (i := 1) rfl) (by omega)) Try.underlying30 Try.underlying30 (by intro k h; cases h) el3 (by intro z; simp [tInt, one1]) (by first | (simp only [List.length_drop]; omega) | (simp; omega)) rfl ?_
        refine o_nil ?_
        refine h_next (fun _ hw => HeapIs.drop hw (List.Sublist.cons_cons _ (List.Sublist.cons _ (List.Sublist.slnil)))) ?_
        refine h_take (i := 7) (ls := #[true, true, true, true, true, true, true, true]) rfl (by kernel_rfl) (by kernel_rfl) (by kernel_rfl) (fun _ _ _ h => h) (p_assign (v := .slice al ((l.take i.toNat) ++ (l.drop j.toNat)).length cl) rfl) rfl rfl rfl (fun _ hw => HeapIs.drop hw (List.Sublist.cons_cons _ (List.Sublist.cons _ (List.Sublist.slnil)))) rfl ?_
        refine h_done (by kernel_rfl) ?_
        refine q_kont hK3 () (Sub.cons rfl (Sub.cons rfl (Sub.nil _))) (fun _ hw => HeapIs.pick hw [0, 1] (by decide) rfl)
    rintro _
    show SQ _ 33 w0 _ _ [(0, .slice al ((l.take i.toNat) ++ (l.drop j.toNat)).length cl), (7, .int .i64 (l.length : Int))] [outer w0 [own tInt Sl al cl l], own tInt Sl al cl ((l.take i.toNat) ++ (l.drop j.toNat))]
    refine q_cast (F' := [(0, .slice al ((l.take i.toNat) ++ (l.drop j.toNat)).length cl), (7, .int .i64 (l.length : Int))]) (H := [outer w0 [own tInt Sl al cl l], own tInt Sl al cl ((l.take i.toNat) ++ (l.drop j.toNat))]) (H' := [outer w0 [own tInt Sl al cl l], own tInt Sl al cl ((l.take i.toNat) ++ (l.drop j.toNat))]) (Sub.cons rfl (Sub.cons rfl (Sub.nil _))) (by rfl) ?_
    refine q_then ?_
    refine c_seq ?_
    refine c_region ?_
    refine o_pure (p_move (v := .slice al ((l.take i.toNat) ++ (l.drop j.toNat)).length cl) rfl) rfl rfl rfl ?_
    refine o_pure (p_move (v := .slice al ((l.take i.toNat) ++ (l.drop j.toNat)).length cl) rfl) rfl rfl rfl ?_
    refine o_pure (p_len_slice (len := ((l.take i.toNat) ++ (l.drop j.toNat)).length) rfl rfl Try.underlying30) rfl rfl rfl ?_
    refine o_pure (p_move (v := .int .i64 (l.length : Int)) rfl) rfl rfl rfl ?_
    refine o_pure (p_sliceTail (i := 1) (L := ((l.take i.toNat) ++ (l.drop j.toNat))) (T := tInt) (h := (l.length : Int)) (m := (l.length - (l.take i.toNat ++ l.drop j.toNat).length)) rfl rfl rfl rfl Try.underlying30 sz3 (by simp only [List.length_append, List.length_take, List.length_drop]; omega)) rfl rfl rfl ?_
    refine o_clearTail (i := 1) (T := tInt) (m := (l.length - (l.take i.toNat ++ l.drop j.toNat).length)) rfl rfl rfl Try.underlying30 ze3 rfl rfl (by first | omega | (simp only [List.length_append, List.length_take, List.length_drop]; omega)) ?_
    refine o_nil ?_
    refine q_then ?_
    refine c_seq ?_
    refine c_region ?_
    refine o_pure (p_move (v := .slice al ((l.take i.toNat) ++ (l.drop j.toNat)).length cl) rfl) rfl rfl rfl ?_
    refine o_pure (p_assign (v := .slice al ((l.take i.toNat) ++ (l.drop j.toNat)).length cl) rfl) rfl rfl rfl ?_
    refine o_nil ?_
    refine q_then ?_
    refine c_ret ?_
    have hr0 : (((l.take i.toNat) ++ (l.drop j.toNat)) : List Int) = (l.take i.toNat ++ l.drop j.toNat) := by
      first | rfl | (have hij : i = j := (by assumption); subst hij; exact (List.take_append_drop _ _).symm)
    refine q_endX (p := (al, cl, Sl)) (rt1 rfl (r_tmp rfl)) ?_ (fun w hw => ?_)
    · exact (by have hcc := congrArg (fun (y0 : List Int) => (.slice al y0.length cl : Value)) hr0; exact hcc)
    · have h2 := hw.pick (H' := [outer w0 [own tInt Sl al cl l], own tInt Sl al cl ((l.take i.toNat) ++ (l.drop j.toNat))]) [0, 1] (by decide) rfl
      exact Eq.mp (congrArg (fun z => HeapIs w0 ((outer w0 [own tInt Sl al cl l]) :: z) w) ((by have hcc := congrArg (fun (y0 : List Int) => ([own tInt Sl al cl y0] : List Ent)) hr0; exact hcc))) h2

set_option maxHeartbeats 8000000 in
set_option maxRecDepth 100000 in
theorem insert_Int_ok (l : List Int) (al : Option Addr) (cl : Nat) (Sl : Nat → Prop) (i : Int) (v : List Int) (av : Option Addr) (cv : Nat) (Sv : Nat → Prop) (hy1 : 0 ≤ i ∧ i ≤ (l.length : Int) ∧ l.length ≤ 1000000 ∧ v.length = 1) : FnX Try.prog 90 [.slice al l.length cl, .int .i64 i, .slice av v.length cv] [own tInt Sl al cl l, own tInt Sv av cv v] (fun _ => True) (Option Addr × Nat × (Nat → Prop)) (fun p => .slice p.1 (l.take i.toNat ++ v ++ l.drop i.toNat).length p.2.1) (fun p => [own tInt p.2.2 p.1 p.2.1 (l.take i.toNat ++ v ++ l.drop i.toNat)]) := by
  refine fnX (nt := 95) (F0 := [(0, .slice al l.length cl), (1, .int .i64 i), (2, .slice av v.length cv)]) Try.func90 rfl Try.ntmps90 rfl rfl (fun w0 hpre => ?_)
  refine c_know (fun w hw => own_len (i := 1) (T := tInt) hw rfl) (fun hlown_l => ?_)
  obtain ⟨hcown_l, hlown_l⟩ := hlown_l
  refine c_know (fun w hw => own_len (i := 2) (T := tInt) hw rfl) (fun hlown_v => ?_)
  obtain ⟨hcown_v, hlown_v⟩ := hlown_v
  refine c_seq ?_
  refine c_region ?_
  refine o_pure (p_assign (v := .slice none 0 0) rfl) rfl rfl rfl ?_
  refine o_nil ?_
  refine q_then ?_
  refine c_seq ?_
  refine c_region ?_
  refine o_pure (p_move (v := .slice al l.length cl) rfl) rfl rfl rfl ?_
  refine o_pure (p_move (v := .int .i64 i) rfl) rfl rfl rfl ?_
  refine o_pure (p_sliceL (L := l) (T := tInt) (l := i) rfl rfl Try.underlying30 sz3 (by first | omega | (simp only [List.length_append, List.length_take, List.length_replicate, List.length_drop, List.length_set]; omega)) (by first | omega | (simp only [List.length_append, List.length_take, List.length_replicate, List.length_drop, List.length_set]; omega)) (rd_own (i := 1) rfl)) rfl rfl rfl ?_
  refine o_nil ?_
  refine q_then ?_
  refine c_seq ?_
  refine c_region ?_
  refine o_pure (p_move (v := .slice av v.length cv) rfl) rfl rfl rfl ?_
  refine o_pure (p_len_slice (len := v.length) rfl rfl Try.underlying30) rfl rfl rfl ?_
  refine o_pure (p_assign (v := .int .i64 (v.length : Int)) rfl) rfl rfl rfl ?_
  refine o_nil ?_
  refine q_then ?_
  refine c_seq ?_
  refine c_seq ?_
  refine c_region ?_
  refine o_pure (p_move (v := .int .i64 (v.length : Int)) rfl) rfl rfl rfl ?_
  refine o_pure (p_eq (p := (v.length : Int)) (q := 0) rfl rfl) rfl rfl rfl ?_
  refine o_nil ?_
  refine q_then ?_
  refine c_cond (b := ((v.length : Int) == 0)) rfl (fun hc1 => ?_) (fun hc1 => ?_)
  · simp only [beq_iff_eq] at hc1
    exfalso; omega
  · simp only [beq_eq_false_iff_ne, ne_eq] at hc1
    refine c_skip ?_
    refine q_then ?_
    refine c_seq ?_
    refine c_region ?_
    refine o_pure (p_move (v := .slice al l.length cl) rfl) rfl rfl rfl ?_
    refine o_pure (p_len_slice (len := l.length) rfl rfl Try.underlying30) rfl rfl rfl ?_
    refine o_pure (p_assign (v := .int .i64 (l.length : Int)) rfl) rfl rfl rfl ?_
    refine o_nil ?_
    refine q_then ?_
    refine c_seq ?_
    refine c_seq ?_
    refine c_region ?_
    refine o_pure (p_move (v := .int .i64 i) rfl) rfl rfl rfl ?_
    refine o_pure (p_move (v := .int .i64 (l.length : Int)) rfl) rfl rfl rfl ?_
    refine o_pure (p_eq (p := i) (q := (l.length : Int)) rfl rfl) rfl rfl rfl ?_
    refine o_nil ?_
    refine q_then ?_
    refine c_cond (b := (i == (l.length : Int))) rfl (fun hc2 => ?_) (fun hc2 => ?_)
    · simp only [beq_iff_eq] at hc2
      refine c_seq ?_
      refine c_region ?_
      refine o_pure (p_move (v := .slice al l.length cl) rfl) rfl rfl rfl ?_
      refine o_pure (p_move (v := .slice av v.length cv) rfl) rfl rfl rfl ?_
      refine o_append (i := 1) (L := l) (M := v) (T := tInt) rfl rfl rfl (rd_own (i := 2) rfl) Try.underlying30 Try.underlying30 (by intro k h; cases h) el3 (by intro z; simp [tInt, one1]) (by decide) (by first | omega | (simp only [List.length_cons, List.length_nil]; omega) | (simp only [List.length_append, List.length_cons, List.length_nil, List.length_take, List.length_drop]; omega)) rfl (fun a3 c4 S5 => ?_)
      refine o_pure (p_assign (v := .slice a3 (l ++ v).length c4) rfl) rfl rfl rfl ?_
      refine o_nil ?_
      refine q_then ?_
      refine c_ret ?_
      refine q_then_ret ?_
      have hr0 : ((l ++ v) : List Int) = (l.take i.toNat ++ v ++ l.drop i.toNat) := by
        first | rfl | (obtain rfl : i = (l.length : Int) := (by assumption); simp)
      refine q_endX (p := (a3, c4, S5)) (rt1 rfl (r_tmp rfl)) ?_ (fun w hw => ?_)
      · exact (by have hcc := congrArg (fun (y0 : List Int) => (.slice a3 y0.length c4 : Value)) hr0; exact hcc)
      · have h2 := hw.pick (H' := [outer w0 [own tInt Sl al cl l, own tInt Sv av cv v], own tInt S5 a3 c4 (l ++ v)]) [0, 1] (by decide) rfl
        exact Eq.mp (congrArg (fun z => HeapIs w0 ((outer w0 [own tInt Sl al cl l, own tInt Sv av cv v]) :: z) w) ((by have hcc := congrArg (fun (y0 : List Int) => ([own tInt S5 a3 c4 y0] : List Ent)) hr0; exact hcc))) h2
    · simp only [beq_eq_false_iff_ne, ne_eq] at hc2
      refine c_skip ?_
      refine q_then ?_
      refine c_seq ?_
      refine c_seq ?_
      refine c_region ?_
      refine o_pure (p_move (v := .int .i64 (l.length : Int)) rfl) rfl rfl rfl ?_
      refine o_pure (p_move (v := .int .i64 (v.length : Int)) rfl) rfl rfl rfl ?_
      refine o_pure (p_addb (p := (l.length : Int)) (q := (v.length : Int)) rfl rfl (by omega)) rfl rfl rfl ?_
      refine o_pure (p_move (v := .slice al l.length cl) rfl) rfl rfl rfl ?_
      refine o_pure (p_cap_slice rfl rfl Try.underlying30) rfl rfl rfl ?_
      refine o_pure (p_gt (p := ((l.length : Int) + (v.length : Int))) (q := (cl : Int)) rfl rfl) rfl rfl rfl ?_
      refine o_nil ?_
      refine q_then ?_
      refine c_cond (b := decide ((cl : Int) < ((l.length : Int) + (v.length : Int)))) rfl (fun hc6 => ?_) (fun hc6 => ?_)
      · simp only [decide_eq_true_eq] at hc6
        refine c_seq ?_
        refine c_region ?_
        refine o_pure (p_move (v := .slice al l.length cl) rfl) rfl rfl rfl ?_
        refine o_pure (p_move (v := .int .i64 i) rfl) rfl rfl rfl ?_
        refine o_pure (p_sliceH (L := l) (T := tInt) (h := i) rfl rfl Try.underlying30 sz3 (by first | omega | (simp only [List.length_append, List.length_take, List.length_replicate, List.length_drop, List.length_set]; omega)) (by first | omega | (simp only [List.length_append, List.length_take, List.length_replicate, List.length_drop, List.length_set]; omega)) (rd_own (i := 1) rfl)) rfl rfl rfl ?_
        refine o_pure (p_move (v := .int .i64 (l.length : Int)) rfl) rfl rfl rfl ?_
        refine o_pure (p_move (v := .int .i64 (v.length : Int)) rfl) rfl rfl rfl ?_
        refine o_pure (p_addb (p := (l.length : Int)) (q := (v.length : Int)) rfl rfl (by omega)) rfl rfl rfl ?_
        refine o_pure (p_move (v := .int .i64 i) rfl) rfl rfl rfl ?_
        refine o_pure (p_subb (p := ((l.length : Int) + (v.length : Int))) (q := i) rfl rfl (by omega)) rfl rfl rfl ?_
        refine o_appendZ (i := 1) (m := i.toNat) (k := (l.length + v.length - i.toNat)) (L := l) (T := tInt) (z := 0) rfl rfl rfl (by omega) Try.underlying30 Try.underlying3 el3 ze3 rfl (by decide) (by omega) rfl (fun a7 c8 S9 => ?_)
        refine o_know (fun w hw => own_len (i := 0) (T := tInt) hw rfl) (fun hlz11 => ?_)
        have hlz11b : ((l.take i.toNat) ++ (List.replicate (l.length + v.length - i.toNat) 0)).length = l.length + v.length := by simp only [List.length_append, List.length_take, List.length_replicate, List.length_drop, List.length_set]; omega
        refine o_pure (p_assign (v := .slice a7 ((l.take i.toNat) ++ (List.replicate (l.length + v.length - i.toNat) 0)).length c8) rfl) rfl rfl rfl ?_
        refine o_nil ?_
        refine q_then ?_
        refine c_seq ?_
        refine c_region ?_
        refine o_pure (p_move (v := .slice a7 ((l.take i.toNat) ++ (List.replicate (l.length + v.length - i.toNat) 0)).length c8) rfl) rfl rfl rfl ?_
        refine o_pure (p_move (v := .int .i64 i) rfl) rfl rfl rfl ?_
        refine o_pure (p_sliceL (L := ((l.take i.toNat) ++ (List.replicate (l.length + v.length - i.toNat) 0))) (T := tInt) (l := i) rfl rfl Try.underlying30 sz3 (by first | omega | (simp only [List.length_append, List.length_take, List.length_replicate, List.length_drop, List.length_set]; omega)) (by first | omega | (simp only [List.length_append, List.length_take, List.length_replicate, List.length_drop, List.length_set]; omega)) (rd_own (i := 0) rfl)) rfl rfl rfl ?_
        refine o_pure (p_move (v := .slice av v.length cv) rfl) rfl rfl rfl ?_
        refine o_copy (i := 0) (lo := i.toNat) (M := v) (T := tInt) (L := ((l.take i.toNat) ++ (List.replicate (l.length + v.length - i.toNat) 0))) (m := 1) (F' := [(0, .slice al l.length cl), (1, .int .i64 i), (7, .int .i64 (v.length : Int)), (9, .slice a7 (l.take i.toNat ++ v ++ List.replicate (l.length - i.toNat) 0).length c8)]) rfl rfl rfl (rd_own (i := 3) rfl) (by (try simp only [List.length_append, List.length_take, List.length_replicate, List.length_drop, List.length_set]); omega) Try.underlying30 sz3 (by intro z; simp [tInt, one1]) (by (try simp only [List.length_append, List.length_take, List.length_replicate, List.length_drop, List.length_set]); omega) rfl (by omega) (Sub.cons rfl (Sub.cons rfl (Sub.cons rfl (Sub.cons (by show some _ = some _; congr 2; first | (simp; omega) | simp) (Sub.nil _))))) ?_
        refine o_asH (H := [own tInt S9 a7 c8 (((l.take i.toNat) ++ (List.replicate (l.length + v.length - i.toNat) 0)).take i.toNat ++ v ++ ((l.take i.toNat) ++ (List.replicate (l.length + v.length - i.toNat) 0)).drop (i.toNat + v.length)), outer w0 [own tInt Sl al cl l, own tInt Sv av cv v], own tInt Sl al cl l, own tInt Sv av cv v]) (H' := [own tInt S9 a7 c8 (l.take i.toNat ++ v ++ List.replicate (l.length - i.toNat) 0), outer w0 [own tInt Sl al cl l, own tInt Sv av cv v], own tInt Sl al cl l, own tInt Sv av cv v]) (by have hins : ((((l.take i.toNat) ++ (List.replicate (l.length + v.length - i.toNat) 0)).take i.toNat ++ v ++ ((l.take i.toNat) ++ (List.replicate (l.length + v.length - i.toNat) 0)).drop (i.toNat + v.length)) : List Int) = (l.take i.toNat ++ v ++ List.replicate (l.length - i.toNat) 0) := (by exact ins_a (by omega) (by omega)); rw [hins]) ?_
        refine o_nil ?_
        refine q_then ?_
        refine c_seq ?_
        refine c_held hmix [ownE tInt S9 a7 c8 ((l.take i.toNat ++ v ++ List.replicate (l.length - i.toNat) 0).length), outer w0 [own tInt Sl al cl l, own tInt Sv av cv v], own tInt Sl al cl l, own tInt Sv av cv v] rfl rfl ?_
        refine h_take (i := 0) (ls := #[true, false, false, false, false, false, false, false, false]) rfl (by kernel_rfl) (by kernel_rfl) (by kernel_rfl) (fun _ _ _ h => h) (p_move (v := .slice a7 (l.take i.toNat ++ v ++ List.replicate (l.length - i.toNat) 0).length c8) rfl) rfl rfl rfl (fun _ hw => HeapIs.drop (HeapIs.toE (i := 0) (m := (l.take i.toNat ++ v ++ List.replicate (l.length - i.toNat) 0).length) (T := tInt) rfl (by first | rfl | (simp; done) | (simp; omega)) hw) (List.Sublist.refl _)) rfl ?_
        refine h_take (i := 1) (ls := #[true, true, false, false, false, false, false, false, false]) rfl (by kernel_rfl) (by kernel_rfl) (by kernel_rfl) (fun _ _ _ h => h) (p_move (v := .int .i64 i) rfl) rfl rfl rfl (fun _ hw => HeapIs.drop (HeapIs.toE (i := 0) (m := (l.take i.toNat ++ v ++ List.replicate (l.length - i.toNat) 0).length) (T := tInt) rfl (by first | rfl | (simp; done) | (simp; omega)) hw) (List.Sublist.refl _)) rfl ?_
        refine h_take (i := 2) (ls := #[true, true, true, false, false, false, false, false, false]) rfl (by kernel_rfl) (by kernel_rfl) (by kernel_rfl) (fun _ _ _ h => h) (p_move (v := .int .i64 (v.length : Int)) rfl) rfl rfl rfl (fun _ hw => HeapIs.drop (HeapIs.toE (i := 0) (m := (l.take i.toNat ++ v ++ List.replicate (l.length - i.toNat) 0).length) (T := tInt) rfl (by first | rfl | (simp; done) | (simp; omega)) hw) (List.Sublist.refl _)) rfl ?_
        refine h_take (i := 3) (ls := #[true, true, true, true, false, false, false, false, false]) rfl (by kernel_rfl) (by kernel_rfl) (by kernel_rfl) (fun _ _ _ h => h) (p_addb (p := i) (q := (v.length : Int)) rfl rfl (by omega)) rfl rfl rfl (fun _ hw => HeapIs.drop (HeapIs.toE (i := 0) (m := (l.take i.toNat ++ v ++ List.replicate (l.length - i.toNat) 0).length) (T := tInt) rfl (by first | rfl | (simp; done) | (simp; omega)) hw) (List.Sublist.refl _)) rfl ?_
        refine h_take (i := 4) (ls := #[true, true, true, true, true, false, false, false, false]) rfl (by kernel_rfl) (by kernel_rfl) (by kernel_rfl) (fun _ _ _ h => h) (p_sliceLE (j := 0) (m := (l.take i.toNat ++ v ++ List.replicate (l.length - i.toNat) 0).length) (T := tInt) (l := (i + (v.length : Int))) rfl rfl rfl Try.underlying30 sz3 (by omega) (by first | omega | (simp; omega))) rfl rfl rfl (fun _ hw => HeapIs.drop (HeapIs.toE (i := 0) (m := (l.take i.toNat ++ v ++ List.replicate (l.length - i.toNat) 0).length) (T := tInt) rfl (by first | rfl | (simp; done) | (simp; omega)) hw) (List.Sublist.refl _)) rfl ?_
        refine h_take (i := 5) (ls := #[true, true, true, true, true, true, false, false, false]) rfl (by kernel_rfl) (by kernel_rfl) (by kernel_rfl) (fun _ _ _ h => h) (p_move (v := .slice al l.length cl) rfl) rfl rfl rfl (fun _ hw => HeapIs.drop (HeapIs.toE (i := 0) (m := (l.take i.toNat ++ v ++ List.replicate (l.length - i.toNat) 0).length) (T := tInt) rfl (by first | rfl | (simp; done) | (simp; omega)) hw) (List.Sublist.refl _)) rfl ?_
        refine h_take (i := 6) (ls := #[true, true, true, true, true, true, true, false, false]) rfl (by kernel_rfl) (by kernel_rfl) (by kernel_rfl) (fun _ _ _ h => h) (p_move (v := .int .i64 i) rfl) rfl rfl rfl (fun _ hw => HeapIs.drop (HeapIs.toE (i := 0) (m := (l.take i.toNat ++ v ++ List.replicate (l.length - i.toNat) 0).length) (T := tInt) rfl (by first | rfl | (simp; done) | (simp; omega)) hw) (List.Sublist.refl _)) rfl ?_
        refine h_take (i := 7) (ls := #[true, true, true, true, true, true, true, true, false]) rfl (by kernel_rfl) (by kernel_rfl) (by kernel_rfl) (fun _ _ _ h => h) (p_sliceL (L := l) (T := tInt) (l := i) rfl rfl Try.underlying30 sz3 (by first | omega | (simp only [List.length_append, List.length_take, List.length_replicate, List.length_drop, List.length_set]; omega)) (by first | omega | (simp only [List.length_append, List.length_take, List.length_replicate, List.length_drop, List.length_set]; omega)) (rd_own (i := 2) rfl)) rfl rfl rfl (fun _ hw => HeapIs.drop (HeapIs.toE (i := 0) (m := (l.take i.toNat ++ v ++ List.replicate (l.length - i.toNat) 0).length) (T := tInt) rfl (by first | rfl | (simp; done) | (simp; omega)) hw) (List.Sublist.refl _)) rfl ?_
        refine h_one (i := 8) (ls := #[true, true, true, true, true, true, true, true, true]) (by kernel_rfl) rfl rfl ?_
        refine o_copy (i := 0) (lo := (i + (v.length : Int)).toNat) (M := (l.drop i.toNat)) (T := tInt) (L := (l.take i.toNat ++ v ++ List.replicate (l.length - i.toNat) 0)) (m := (l.length - i.toNat)) (F' := [(0, .slice al l.length cl), (1, .int .i64 i), (7, .int .i64 (v.length : Int)), (9, .slice a7 (l.take i.toNat ++ v ++ l.drop i.toNat).length c8)]) rfl rfl rfl (rd_dropC (l := i.toNat) (rd_own (i := 2) rfl) (by first | omega | (simp only [List.length_append, List.length_take, List.length_replicate, List.length_drop, List.length_set]; omega))) (by (try simp only [List.length_append, List.length_take, List.length_replicate, List.length_drop, List.length_set]); omega) Try.underlying30 sz3 (by intro z; simp [tInt, one1]) (by (try simp only [List.length_append, List.length_take, List.length_replicate, List.length_drop, List.length_set]); omega) rfl (by simp) (Sub.cons rfl (Sub.cons rfl (Sub.cons rfl (Sub.cons (by show some _ = some _; congr 2; first | (simp; omega) | simp) (Sub.nil _))))) ?_
        refine o_asH (H := [own tInt S9 a7 c8 ((l.take i.toNat ++ v ++ List.replicate (l.length - i.toNat) 0).take ((i + (v.length : Int)).toNat) ++ (l.drop i.toNat) ++ (l.take i.toNat ++ v ++ List.replicate (l.length - i.toNat) 0).drop (((i + (v.length : Int)).toNat) + (l.drop i.toNat).length)), outer w0 [own tInt Sl al cl l, own tInt Sv av cv v], own tInt Sl al cl l, own tInt Sv av cv v]) (H' := [own tInt S9 a7 c8 (l.take i.toNat ++ v ++ l.drop i.toNat), outer w0 [own tInt Sl al cl l, own tInt Sv av cv v], own tInt Sl al cl l, own tInt Sv av cv v]) (by have hins : (((l.take i.toNat ++ v ++ List.replicate (l.length - i.toNat) 0).take ((i + (v.length : Int)).toNat) ++ (l.drop i.toNat) ++ (l.take i.toNat ++ v ++ List.replicate (l.length - i.toNat) 0).drop (((i + (v.length : Int)).toNat) + (l.drop i.toNat).length)) : List Int) = (l.take i.toNat ++ v ++ l.drop i.toNat) := (by exact ins_b (by omega) (by omega) (by omega)); rw [hins]) ?_
        refine o_nil ?_
        refine h_next (fun _ hw => HeapIs.drop (HeapIs.toE (i := 0) (m := (l.take i.toNat ++ v ++ List.replicate (l.length - i.toNat) 0).length) (T := tInt) rfl (by first | rfl | (simp; done) | (simp; omega)) hw) (List.Sublist.refl _)) ?_
        refine h_done (by kernel_rfl) ?_
        refine q_cast (F' := [(9, .slice a7 (l.take i.toNat ++ v ++ l.drop i.toNat).length c8)]) (H := [own tInt S9 a7 c8 (l.take i.toNat ++ v ++ l.drop i.toNat), outer w0 [own tInt Sl al cl l, own tInt Sv av cv v], own tInt Sl al cl l, own tInt Sv av cv v]) (H' := [own tInt S9 a7 c8 (l.take i.toNat ++ v ++ l.drop i.toNat), outer w0 [own tInt Sl al cl l, own tInt Sv av cv v], own tInt Sl al cl l, own tInt Sv av cv v]) (Sub.cons rfl (Sub.nil _)) (by rfl) ?_
        refine q_then ?_
        refine c_seq ?_
        refine c_region ?_
        refine o_pure (p_move (v := .slice a7 (l.take i.toNat ++ v ++ l.drop i.toNat).length c8) rfl) rfl rfl rfl ?_
        refine o_pure (p_assign (v := .slice a7 (l.take i.toNat ++ v ++ l.drop i.toNat).length c8) rfl) rfl rfl rfl ?_
        refine o_nil ?_
        refine q_then ?_
        refine c_ret ?_
        refine q_then_ret ?_
        refine q_endX (p := (a7, c8, S9)) (rt1 rfl (r_tmp rfl)) ?_ (fun w hw => ?_)
        · exact rfl
        · have h2 := hw.pick (H' := [outer w0 [own tInt Sl al cl l, own tInt Sv av cv v], own tInt S9 a7 c8 (l.take i.toNat ++ v ++ l.drop i.toNat)]) [1, 0] (by decide) rfl
          exact Eq.mp (congrArg (fun z => HeapIs w0 ((outer w0 [own tInt Sl al cl l, own tInt Sv av cv v]) :: z) w) (rfl)) h2
      · simp only [decide_eq_false_iff_not, Int.not_lt] at hc6
        refine c_skip ?_
        refine q_then ?_
        refine c_seq ?_
        refine c_region ?_
        refine o_pure (p_move (v := .slice al l.length cl) rfl) rfl rfl rfl ?_
        refine o_pure (p_move (v := .int .i64 (l.length : Int)) rfl) rfl rfl rfl ?_
        refine o_pure (p_move (v := .int .i64 (v.length : Int)) rfl) rfl rfl rfl ?_
        refine o_pure (p_addb (p := (l.length : Int)) (q := (v.length : Int)) rfl rfl (by omega)) rfl rfl rfl ?_
        refine o_pure (p_slice0 (hi := (l.length + v.length)) (hv := ((l.length : Int) + (v.length : Int))) rfl rfl Try.underlying30 sz3 (by omega) (by omega)) rfl rfl rfl ?_
        refine o_pure (p_assign (v := .slice al (l.length + v.length) cl) rfl) rfl rfl rfl ?_
        refine o_nil ?_
        refine q_then ?_
        refine c_seq ?_
        refine c_seq ?_
        refine c_region ?_
        refine o_pure (p_move (v := .slice av v.length cv) rfl) rfl rfl rfl ?_
        refine o_pure (p_move (v := .slice al (l.length + v.length) cl) rfl) rfl rfl rfl ?_
        refine o_pure (p_move (v := .int .i64 i) rfl) rfl rfl rfl ?_
        refine o_pure (p_move (v := .int .i64 (v.length : Int)) rfl) rfl rfl rfl ?_
        refine o_pure (p_addb (p := i) (q := (v.length : Int)) rfl rfl (by omega)) rfl rfl rfl ?_
        refine o_pure (p_slice (l := (i.toNat + 1)) (hi := (l.length + v.length)) (m := cl) (lv := some (.int .i64 (i + (v.length : Int)))) (hv := none) (mv := none) rfl rfl rfl rfl Try.underlying30 sz3 (.inr ⟨.i64, by congr 1; congr 1; omega⟩) (.inl ⟨rfl, rfl⟩) (.inl ⟨rfl, rfl⟩) (fun _ => rfl) (by omega) (by omega) (Nat.le_refl _) rfl) rfl rfl rfl ?_
        refine o_pure (p_overlaps (tS := 30) (tR := 4) (i := 1) (j := 2) (lo := (i.toNat + 1)) (M := v) Try.func104 (by kernel_rfl) (by kernel_rfl) (by kernel_rfl) (by kernel_rfl) rfl rfl rfl rfl (by decide) Try.underlying30 sz3 (by omega) (by omega) (by decide)) rfl rfl rfl ?_
        refine o_pure (p_not (b := false) rfl) rfl rfl rfl ?_
        refine o_nil ?_
        refine q_then ?_
        refine c_true rfl ?_
        refine c_seq ?_
        refine c_held hmix [outer w0 [own tInt Sl al cl l, own tInt Sv av cv v], own tInt Sv av cv v] rfl rfl ?_
        refine h_take (i := 0) (ls := #[true, false, false, false, false, false, false, false, false]) rfl (by kernel_rfl) (by kernel_rfl) (by kernel_rfl) (fun _ _ _ h => h) (p_move (v := .slice al (l.length + v.length) cl) rfl) rfl rfl rfl (fun _ hw => HeapIs.drop hw (List.Sublist.cons_cons _ (List.Sublist.cons _ (List.Sublist.cons_cons _ (List.Sublist.slnil))))) rfl ?_
        refine h_take (i := 1) (ls := #[true, true, false, false, false, false, false, false, false]) rfl (by kernel_rfl) (by kernel_rfl) (by kernel_rfl) (fun _ _ _ h => h) (p_move (v := .int .i64 i) rfl) rfl rfl rfl (fun _ hw => HeapIs.drop hw (List.Sublist.cons_cons _ (List.Sublist.cons _ (List.Sublist.cons_cons _ (List.Sublist.slnil))))) rfl ?_
        refine h_take (i := 2) (ls := #[true, true, true, false, false, false, false, false, false]) rfl (by kernel_rfl) (by kernel_rfl) (by kernel_rfl) (fun _ _ _ h => h) (p_move (v := .int .i64 (v.length : Int)) rfl) rfl rfl rfl (fun _ hw => HeapIs.drop hw (List.Sublist.cons_cons _ (List.Sublist.cons _ (List.Sublist.cons_cons _ (List.Sublist.slnil))))) rfl ?_
        refine h_take (i := 3) (ls := #[true, true, true, true, false, false, false, false, false]) rfl (by kernel_rfl) (by kernel_rfl) (by kernel_rfl) (fun _ _ _ h => h) (p_addb (p := i) (q := (v.length : Int)) rfl rfl (by omega)) rfl rfl rfl (fun _ hw => HeapIs.drop hw (List.Sublist.cons_cons _ (List.Sublist.cons _ (List.Sublist.cons_cons _ (List.Sublist.slnil))))) rfl ?_
        refine h_take (i := 4) (ls := #[true, true, true, true, true, false, false, false, false]) rfl (by kernel_rfl) (by kernel_rfl) (by kernel_rfl) (fun _ _ _ h => h) (p_slice (l := (i.toNat + 1)) (hi := (l.length + v.length)) (m := cl) (lv := some (.int .i64 (i + (v.length : Int)))) (hv := none) (mv := none) rfl rfl rfl rfl Try.underlying30 sz3 (.inr ⟨.i64, by congr 1; congr 1; omega⟩) (.inl ⟨rfl, rfl⟩) (.inl ⟨rfl, rfl⟩) (fun _ => rfl) (by omega) (by omega) (Nat.le_refl _) rfl) rfl rfl rfl (fun _ hw => HeapIs.drop hw (List.Sublist.cons_cons _ (List.Sublist.cons _ (List.Sublist.cons_cons _ (List.Sublist.slnil))))) rfl ?_
        refine h_take (i := 5) (ls := #[true, true, true, true, true, true, false, false, false]) rfl (by kernel_rfl) (by kernel_rfl) (by kernel_rfl) (fun _ _ _ h => h) (p_move (v := .slice al (l.length + v.length) cl) rfl) rfl rfl rfl (fun _ hw => HeapIs.drop hw (List.Sublist.cons_cons _ (List.Sublist.cons _ (List.Sublist.cons_cons _ (List.Sublist.slnil))))) rfl ?_
        refine h_take (i := 6) (ls := #[true, true, true, true, true, true, true, false, false]) rfl (by kernel_rfl) (by kernel_rfl) (by kernel_rfl) (fun _ _ _ h => h) (p_move (v := .int .i64 i) rfl) rfl rfl rfl (fun _ hw => HeapIs.drop hw (List.Sublist.cons_cons _ (List.Sublist.cons _ (List.Sublist.cons_cons _ (List.Sublist.slnil))))) rfl ?_
        refine h_take (i := 7) (ls := #[true, true, true, true, true, true, true, true, false]) rfl (by kernel_rfl) (by kernel_rfl) (by kernel_rfl) (fun _ _ _ h => h) (p_slice (l := i.toNat) (hi := (l.length + v.length)) (m := cl) (lv := some (.int .i64 i)) (hv := none) (mv := none) rfl rfl rfl rfl Try.underlying30 sz3 (.inr ⟨.i64, by congr 1; congr 1; omega⟩) (.inl ⟨rfl, rfl⟩) (.inl ⟨rfl, rfl⟩) (fun _ => rfl) (by omega) (by omega) (Nat.le_refl _) rfl) rfl rfl rfl (fun _ hw => HeapIs.drop hw (List.Sublist.cons_cons _ (List.Sublist.cons _ (List.Sublist.cons_cons _ (List.Sublist.slnil))))) rfl ?_
        refine h_one (i := 8) (ls := #[true, true, true, true, true, true, true, true, true]) (by kernel_rfl) rfl rfl ?_
        refine o_copy (i := 1) (lo := (i.toNat + 1)) (M := (l.drop i.toNat)) (T := tInt) (L := l) (m := (l.length - i.toNat)) (F' := [(0, .slice al (l.take (i.toNat + 1) ++ l.drop i.toNat).length cl), (1, .int .i64 i), (2, .slice av v.length cv), (7, .int .i64 (v.length : Int)), (8, .int .i64 (l.length : Int)), (68, .bool true)]) rfl rfl rfl (rd_dropC (l := i.toNat) (rd_own (i := 1) rfl) (by omega)) (by (try simp only [List.length_append, List.length_take, List.length_replicate, List.length_drop, List.length_set]); omega) Try.underlying30 sz3 (by intro z; simp [tInt, one1]) (by (try simp only [List.length_append, List.length_take, List.length_replicate, List.length_drop, List.length_set]); omega) rfl (by simp) (Sub.cons (by show some _ = some _; congr 2; first | (simp; omega) | simp) (Sub.cons rfl (Sub.cons rfl (Sub.cons rfl (Sub.cons rfl (Sub.cons rfl (Sub.nil _))))))) ?_
        refine o_asH (H := [outer w0 [own tInt Sl al cl l, own tInt Sv av cv v], own tInt Sl al cl (l.take (i.toNat + 1) ++ (l.drop i.toNat) ++ l.drop ((i.toNat + 1) + (l.drop i.toNat).length)), own tInt Sv av cv v]) (H' := [outer w0 [own tInt Sl al cl l, own tInt Sv av cv v], own tInt Sl al cl (l.take (i.toNat + 1) ++ l.drop i.toNat), own tInt Sv av cv v]) (by have hins : ((l.take (i.toNat + 1) ++ (l.drop i.toNat) ++ l.drop ((i.toNat + 1) + (l.drop i.toNat).length)) : List Int) = (l.take (i.toNat + 1) ++ l.drop i.toNat) := (by exact ins_c (by omega) (by omega)); rw [hins]) ?_
        refine o_nil ?_
        refine h_next (fun _ hw => HeapIs.drop hw (List.Sublist.cons_cons _ (List.Sublist.cons _ (List.Sublist.cons_cons _ (List.Sublist.slnil))))) ?_
        refine h_done (by kernel_rfl) ?_
        refine q_cast (F' := [(0, .slice al (l.take (i.toNat + 1) ++ l.drop i.toNat).length cl), (1, .int .i64 i), (2, .slice av v.length cv)]) (H := [outer w0 [own tInt Sl al cl l, own tInt Sv av cv v], own tInt Sl al cl (l.take (i.toNat + 1) ++ l.drop i.toNat), own tInt Sv av cv v]) (H' := [outer w0 [own tInt Sl al cl l, own tInt Sv av cv v], own tInt Sl al cl (l.take (i.toNat + 1) ++ l.drop i.toNat), own tInt Sv av cv v]) (Sub.cons rfl (Sub.cons rfl (Sub.cons rfl (Sub.nil _)))) (by rfl) ?_
        refine q_then ?_
        refine c_seq ?_
        refine c_region ?_
        refine o_pure (p_move (v := .slice al (l.take (i.toNat + 1) ++ l.drop i.toNat).length cl) rfl) rfl rfl rfl ?_
        refine o_pure (p_move (v := .int .i64 i) rfl) rfl rfl rfl ?_
        refine o_pure (p_sliceL (L := (l.take (i.toNat + 1) ++ l.drop i.toNat)) (T := tInt) (l := i) rfl rfl Try.underlying30 sz3 (by first | omega | (simp only [List.length_append, List.length_take, List.length_replicate, List.length_drop, List.length_set]; omega)) (by first | omega | (simp only [List.length_append, List.length_take, List.length_replicate, List.length_drop, List.length_set]; omega)) (rd_own (i := 1) rfl)) rfl rfl rfl ?_
        refine o_pure (p_move (v := .slice av v.length cv) rfl) rfl rfl rfl ?_
        refine o_copy (i := 1) (lo := i.toNat) (M := v) (T := tInt) (L := (l.take (i.toNat + 1) ++ l.drop i.toNat)) (m := 1) (F' := [(0, .slice al (l.take i.toNat ++ v ++ l.drop i.toNat).length cl)]) rfl rfl rfl (rd_own (i := 2) rfl) (by (try simp only [List.length_append, List.length_take, List.length_replicate, List.length_drop, List.length_set]); omega) Try.underlying30 sz3 (by intro z; simp [tInt, one1]) (by (try simp only [List.length_append, List.length_take, List.length_replicate, List.length_drop, List.length_set]); omega) rfl (by omega) (Sub.cons (by show some _ = some _; congr 2; first | (simp; omega) | simp) (Sub.nil _)) ?_
        refine o_asH (H := [outer w0 [own tInt Sl al cl l, own tInt Sv av cv v], own tInt Sl al cl ((l.take (i.toNat + 1) ++ l.drop i.toNat).take i.toNat ++ v ++ (l.take (i.toNat + 1) ++ l.drop i.toNat).drop (i.toNat + v.length)), own tInt Sv av cv v]) (H' := [outer w0 [own tInt Sl al cl l, own tInt Sv av cv v], own tInt Sl al cl (l.take i.toNat ++ v ++ l.drop i.toNat), own tInt Sv av cv v]) (by have hins : (((l.take (i.toNat + 1) ++ l.drop i.toNat).take i.toNat ++ v ++ (l.take (i.toNat + 1) ++ l.drop i.toNat).drop (i.toNat + v.length)) : List Int) = (l.take i.toNat ++ v ++ l.drop i.toNat) := (by exact ins_d (by omega) (by omega)); rw [hins]) ?_
        refine o_nil ?_
        refine q_then ?_
        refine c_seq ?_
        refine c_region ?_
        refine o_pure (p_move (v := .slice al (l.take i.toNat ++ v ++ l.drop i.toNat).length cl) rfl) rfl rfl rfl ?_
        refine o_pure (p_assign (v := .slice al (l.take i.toNat ++ v ++ l.drop i.toNat).length cl) rfl) rfl rfl rfl ?_
        refine o_nil ?_
        refine q_then ?_
        refine c_ret ?_
        refine q_then_ret ?_
        refine q_endX (p := (al, cl, Sl)) (rt1 rfl (r_tmp rfl)) ?_ (fun w hw => ?_)
        · exact rfl
        · have h2 := hw.pick (H' := [outer w0 [own tInt Sl al cl l, own tInt Sv av cv v], own tInt Sl al cl (l.take i.toNat ++ v ++ l.drop i.toNat)]) [0, 1] (by decide) rfl
          exact Eq.mp (congrArg (fun z => HeapIs w0 ((outer w0 [own tInt Sl al cl l, own tInt Sv av cv v]) :: z) w) (rfl)) h2

set_option maxHeartbeats 8000000 in
set_option maxRecDepth 100000 in
theorem indexFunc_Int_ok (l : List Int) (al : Option Addr) (cl : Nat) (gf : FuncId) (kf : List Value) (f : Int → Bool) (Pf : World → Prop) (stf : ∀ w w', Below w.heap.size w w' → Pf w → Pf w') (okf : ∀ (x : Int), Fn0 Try.prog gf (.int .i64 x :: kf) Pf (.bool (f x))) (hpf : HasFn Try.prog gf) : Fn0 Try.prog 91 [.slice al l.length cl, .func (.func gf) #[] kf.toArray] (fun w => Rd tInt w al cl l ∧ Pf w) (.int .i64 (idxF f l)) := by
  refine fn0 (nt := 19) (F0 := [(0, .slice al l.length cl), (1, .func (.func gf) #[] kf.toArray)]) Try.func91 rfl Try.ntmps91 rfl rfl (fun w0 hpre => ?_)
  obtain ⟨hl, hf⟩ := hpre
  have hlhl := hl.2.1
  refine c_seq ?_
  refine c_region ?_
  refine o_pure (p_assign (v := .int .i64 0) rfl) rfl rfl rfl ?_
  refine o_nil ?_
  refine q_then ?_
  refine c_seq ?_
  refine c_seq ?_
  refine c_region ?_
  refine o_pure (p_move (v := .slice al l.length cl) rfl) rfl rfl rfl ?_
  refine o_pure (p_len_slice (len := l.length) rfl rfl Try.underlying30) rfl rfl rfl ?_
  refine o_pure (p_move (v := .int .i64 0) rfl) rfl rfl rfl ?_
  refine o_nil ?_
  refine q_then ?_
  refine c_block ?_
  refine c_loop (St := Nat)
    (fun k => [(0, .slice al l.length cl), (1, .func (.func gf) #[] kf.toArray), (7, .int .i64 (l.length : Int)), (8, .int .i64 (k : Int))])
    (fun k => [base w0])
    (fun k => k ≤ l.length ∧ ∀ j (h : j < l.length), j < k → f l[j] = false)
    (fun k => l.length - k)
    0 ?_ (Sub.cons rfl (Sub.cons rfl (Sub.cons rfl (Sub.cons rfl (Sub.nil _))))) (fun _ hw => hw) ?_
  · exact ⟨Nat.zero_le _, fun j _ h => absurd h (by omega)⟩
  rintro k hI K hK1
  obtain ⟨hI1, hI2⟩ := hI
  show SC _ _ Try.prog 19 w0 _ _ [(0, .slice al l.length cl), (1, .func (.func gf) #[] kf.toArray), (7, .int .i64 (l.length : Int)), (8, .int .i64 (k : Int))] [base w0]
  refine c_seq ?_
  refine c_region ?_
  refine o_pure (p_lt (p := (k : Int)) (q := (l.length : Int)) rfl rfl) rfl rfl rfl ?_
  refine o_nil ?_
  refine q_then ?_
  refine c_seq ?_
  refine c_cond (b := decide ((k : Int) < (l.length : Int))) rfl (fun hc2 => ?_) (fun hc2 => ?_)
  · simp only [decide_eq_true_eq] at hc2
    refine c_skip ?_
    refine q_then ?_
    refine c_seq ?_
    refine c_block ?_
    refine c_seq ?_
    refine c_region ?_
    refine o_pure (p_move (v := .int .i64 (k : Int)) rfl) rfl rfl rfl ?_
    refine o_pure (p_assign (v := .int .i64 (k : Int)) rfl) rfl rfl rfl ?_
    refine o_nil ?_
    refine q_then ?_
    refine c_seq ?_
    refine c_region ?_
    refine o_pure (p_move (v := .func (.func gf) #[] kf.toArray) rfl) rfl rfl rfl ?_
    refine o_pure (p_move (v := .slice al l.length cl) rfl) rfl rfl rfl ?_
    refine o_pure (p_move (v := .int .i64 (k : Int)) rfl) rfl rfl rfl ?_
    refine o_pure (p_indexAddr (L := l) (T := tInt) (i := (k : Int)) rfl rfl (rd_base (i := 0) rfl hl) Try.underlying30 sz3 (by omega) (by omega)) rfl rfl rfl ?_
    refine o_pure (p_loadE1 (i := k) (T := tInt) (L := l) (v := .int .i64 (l[k])) rfl (rd_base (i := 0) rfl hl) (by first | assumption | omega) sh3 rfl) rfl rfl rfl ?_
    refine o_call0V (vs := [.int .i64 (l[k])]) (caps := kf) (v := .bool (f (l[k]))) rfl rfl (okf (l[k])) hpf (pre_base (i := 0) rfl stf hf) rfl ?_
    refine o_nil ?_
    refine q_then ?_
    refine c_cond (b := (f (l[k]))) rfl (fun hc3 => ?_) (fun hc3 => ?_)
    · skip
      refine c_seq ?_
      refine c_region ?_
      refine o_pure (p_move (v := .int .i64 (k : Int)) rfl) rfl rfl rfl ?_
      refine o_pure (p_assign (v := .int .i64 (k : Int)) rfl) rfl rfl rfl ?_
      refine o_nil ?_
      refine q_then ?_
      refine c_ret ?_
      refine q_block_ret (q_then_ret (q_then_ret (q_block_ret (q_then_ret ?_))))
      have hr0 : ((k : Int) : Int) = (idxF f l) := by
        first | exact idxF_found (by omega) (by assumption) hI2 | exact idxF_none (fun j h => hI2 j h (by omega))
      refine q_end0 (v := .int .i64 (k : Int)) (rt1 rfl (r_tmp rfl)) (i := 0) rfl ?_
      exact (by have hcc := congrArg (fun (y0 : Int) => (.int .i64 y0 : Value)) hr0; exact hcc)
    · skip
      refine c_skip ?_
      refine q_block_normal (q_then ?_)
      refine c_region ?_
      refine o_pure (p_addb (p := (k : Int)) (q := 1) rfl rfl (by omega)) rfl rfl rfl ?_
      refine o_pure (p_move (v := .int .i64 ((k : Int) + 1)) rfl) rfl rfl rfl ?_
      refine o_nil ?_
      refine q_round hK1 (k + 1) ?_ ?_ ?_ ?_
      · clear hK1
        refine ⟨by omega, fun j h h2 => ?_⟩
        by_cases e : j = k
        · subst e; assumption
        · exact hI2 j h (by omega)
      · (try dsimp only); omega
      · exact Sub.cons rfl (Sub.cons rfl (Sub.cons rfl (Sub.cons rfl (Sub.nil _))))
      · exact fun _ hw => HeapIs.pick hw [0] (by decide) rfl
  · simp only [decide_eq_false_iff_not, Int.not_lt] at hc2
    refine c_exit ?_
    refine q_then_exit (q_then_exit (q_block_exit (q_then ?_)))
    refine c_seq ?_
    refine c_region ?_
    refine o_pure (p_assign (v := .int .i64 (-1)) rfl) rfl rfl rfl ?_
    refine o_nil ?_
    refine q_then ?_
    refine c_ret ?_
    have hr0 : ((-1) : Int) = (idxF f l) := by
      first | exact idxF_found (by omega) (by assumption) hI2 | exact idxF_none (fun j h => hI2 j h (by omega))
    refine q_end0 (v := .int .i64 (-1)) (rt1 rfl (r_tmp rfl)) (i := 0) rfl ?_
    exact (by have hcc := congrArg (fun (y0 : Int) => (.int .i64 y0 : Value)) hr0; exact hcc)

set_option maxHeartbeats 8000000 in
set_option maxRecDepth 100000 in
theorem containsFunc_Int_ok (l : List Int) (al : Option Addr) (cl : Nat) (gf : FuncId) (kf : List Value) (f : Int → Bool) (Pf : World → Prop) (stf : ∀ w w', Below w.heap.size w w' → Pf w → Pf w') (okf : ∀ (x : Int), Fn0 Try.prog gf (.int .i64 x :: kf) Pf (.bool (f x))) (hpf : HasFn Try.prog gf) : Fn0 Try.prog 86 [.slice al l.length cl, .func (.func gf) #[] kf.toArray] (fun w => Rd tInt w al cl l ∧ Pf w) (.bool (l.any f)) := by
  refine fn0 (nt := 9) (F0 := [(0, .slice al l.length cl), (1, .func (.func gf) #[] kf.toArray)]) Try.func86 rfl Try.ntmps86 rfl rfl (fun w0 hpre => ?_)
  obtain ⟨hl, hf⟩ := hpre
  have hlhl := hl.2.1
  refine c_seq ?_
  refine c_region ?_
  refine o_pure (p_assign (v := .bool false) rfl) rfl rfl rfl ?_
  refine o_nil ?_
  refine q_then ?_
  refine c_seq ?_
  refine c_region ?_
  refine o_pure (p_move (v := .slice al l.length cl) rfl) rfl rfl rfl ?_
  refine o_pure (p_move (v := .func (.func gf) #[] kf.toArray) rfl) rfl rfl rfl ?_
  refine o_call0 (v := .int .i64 (idxF f l)) rfl (indexFunc_Int_ok l al cl gf kf f Pf stf okf hpf) hf91 (fun w hw => ⟨(rd_base (i := 0) rfl hl) w hw, pre_base (i := 0) rfl stf hf w hw⟩) rfl ?_
  refine o_pure (p_ge (p := (idxF f l)) (q := 0) rfl rfl) rfl rfl rfl ?_
  refine o_pure (p_assign (v := .bool (decide (0 ≤ (idxF f l)))) rfl) rfl rfl rfl ?_
  refine o_nil ?_
  refine q_then ?_
  refine c_ret ?_
  have hr0 : (decide (0 ≤ (idxF f l)) : Bool) = (l.any f) := by
    exact (any_idxF f l).symm
  refine q_end0 (v := .bool (decide (0 ≤ (idxF f l)))) (rt1 rfl (r_tmp rfl)) (i := 0) rfl ?_
  exact (by have hcc := congrArg (fun (y0 : Bool) => (.bool y0 : Value)) hr0; exact hcc)
end Go.Proofs.Ytkndekkacimekaa
