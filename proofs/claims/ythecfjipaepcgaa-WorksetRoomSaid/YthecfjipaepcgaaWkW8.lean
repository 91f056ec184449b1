/- The walks, printed by a program from the translation and a specification. -/
import Derived.Test.YthecfjipaepcgaaWkF
import Derived.Test.YthecfjipaepcgaaWsLaw5
import Derived.Test.YthecfjipaepcgaaExLaw
import Derived.Test.YthecfjipaepcgaaWkW1
namespace Go.Proofs.Ythecfjipaepcgaa
open Go.Sx Go.RowKit
set_option maxHeartbeats 8000000 in
set_option maxRecDepth 100000 in
theorem clone_Int_ok (l : List Int) (al : Option Addr) (cl : Nat) (hy1 : l.length ≤ 1000000) : FnM Try.prog 107 [.slice al l.length cl] (fun w => Rd tInt w al cl l) (Option Addr × Nat) (fun p => .slice p.1 l.length p.2) (fun p S w => SlO tInt S w p.1 p.2 l) := by
  refine fnM (nt := 8) (F0 := [(0, .slice al l.length cl)]) Try.func107 rfl Try.ntmps107 rfl rfl (fun w0 hpre => ?_)
  have hl := hpre
  have hlhl := hl.2.1
  refine c_seq ?_
  refine c_region ?_
  refine o_pure (p_assign (v := .slice none 0 0) rfl) rfl rfl rfl ?_
  refine o_nil ?_
  refine q_then ?_
  refine c_seq ?_
  refine c_seq ?_
  refine c_region ?_
  refine o_pure (p_move (v := .slice al l.length cl) rfl) rfl rfl rfl ?_
  refine o_pure (p_eqNil rfl rfl Try.underlying45) rfl rfl rfl ?_
  refine o_nil ?_
  refine q_then ?_
  refine c_cond (b := al.isNone) rfl (fun hc1 => ?_) (fun hc1 => ?_)
  · skip
    refine c_seq ?_
    refine c_region ?_
    refine o_pure (p_assign (v := .slice none 0 0) rfl) rfl rfl rfl ?_
    refine o_nil ?_
    refine q_then ?_
    refine c_ret ?_
    refine q_then_ret ?_
    have hr0 : ([] : List Int) = l := by
      first | exact (rd_isNone hl (by assumption)).symm | simp
    refine q_endM (p := (none, 0)) (fun _ => False) (rt1 rfl (r_tmp rfl)) (i := 0) rfl ?_ ?_ ?_
    · exact (by have hcc := congrArg (fun (y0 : List Int) => (.slice none y0.length 0 : Value)) hr0; exact hcc)
    · intro w hw b hb; exact hb.elim
    · intro w hw; exact Eq.mp (congrArg (fun y => SlO tInt _ w none 0 y) hr0) (SlO.nil tInt w)
  · skip
    refine c_skip ?_
    refine q_then ?_
    refine c_seq ?_
    refine c_region ?_
    refine o_buildSlice (m := 0) (T := tInt) (L := []) (vs := []) rfl rfl rfl rfl Try.underlying45 sz3 (by decide) ze3 rfl (by decide) rfl (fun S2 a3 => ?_)
    refine o_pure (p_move (v := .slice al l.length cl) rfl) rfl rfl rfl ?_
    refine o_append (i := 0) (L := []) (M := l) (T := tInt) rfl rfl rfl (rd_base (i := 1) rfl hl) Try.underlying45 Try.underlying45 (by intro k h; cases h) el3 (by intro z; simp [tInt, one1]) (by decide) (by simp only [List.length_nil]; omega) rfl (fun a5 c6 S7 => ?_)
    refine o_pure (p_assign (v := .slice a5 ([] ++ l).length c6) rfl) rfl rfl rfl ?_
    refine o_nil ?_
    refine q_then ?_
    refine c_ret ?_
    have hr0 : (([] ++ l) : List Int) = l := by
      first | exact (rd_isNone hl (by assumption)).symm | simp
    refine q_endM (p := (a5, c6)) S7 (rt1 rfl (r_tmp rfl)) (i := 1) rfl ?_ ?_ ?_
    · exact (by have hcc := congrArg (fun (y0 : List Int) => (.slice a5 y0.length c6 : Value)) hr0; exact hcc)
    · exact fun w hw => hw.above (i := 1) (j := 0) (by decide) rfl rfl
    · intro w hw; exact Eq.mp (congrArg (fun y => SlO tInt _ w a5 c6 y) hr0) ((hw.at (i := 0) rfl).here)

set_option maxHeartbeats 8000000 in
set_option maxRecDepth 100000 in
theorem index_int_ok (l : List Int) (al : Option Addr) (cl : Nat) (v : Int) : Fn0 Try.prog 108 [.slice al l.length cl, .int .i64 v] (fun w => Rd tInt w al cl l) (.int .i64 (idxF (fun x : Int => (x == v)) l)) := by
  refine fn0 (nt := 19) (F0 := [(0, .slice al l.length cl), (1, .int .i64 v)]) Try.func108 rfl Try.ntmps108 rfl rfl (fun w0 hpre => ?_)
  have hl := hpre
  have hlhl := hl.2.1
  refine c_seq ?_
  refine c_region ?_
  refine o_pure (p_assign (v := .int .i64 0) rfl) rfl rfl rfl ?_
  refine o_nil ?_
  refine q_then ?_
  refine c_seq ?_
  refine c_seq ?_
  refine c_region ?_
  refine o_pure (p_move (v := .slice al l.length cl) rfl) rfl rfl rfl ?_
  refine o_pure (p_len_slice (len := l.length) rfl rfl Try.underlying45) rfl rfl rfl ?_
  refine o_pure (p_move (v := .int .i64 0) rfl) rfl rfl rfl ?_
  refine o_nil ?_
  refine q_then ?_
  refine c_block ?_
  refine c_loop (St := Nat)
    (fun k => [(0, .slice al l.length cl), (1, .int .i64 v), (7, .int .i64 (l.length : Int)), (8, .int .i64 (k : Int))])
    (fun k => [base w0])
    (fun k => k ≤ l.length ∧ ∀ j (h : j < l.length), j < k → l[j] ≠ v)
    (fun k => l.length - k)
    0 ?_ (Sub.cons rfl (Sub.cons rfl (Sub.cons rfl (Sub.cons rfl (Sub.nil _))))) (fun _ hw => hw) ?_
  · exact ⟨Nat.zero_le _, fun j _ h => absurd h (by omega)⟩
  rintro k hI K hK1
  show SC _ _ Try.prog 19 w0 _ _ [(0, .slice al l.length cl), (1, .int .i64 v), (7, .int .i64 (l.length : Int)), (8, .int .i64 (k : Int))] [base w0]
  refine c_seq ?_
  refine c_region ?_
  refine o_pure (p_lt (p := (k : Int)) (q := (l.length : Int)) rfl rfl) rfl rfl rfl ?_
  refine o_nil ?_
  refine q_then ?_
  refine c_seq ?_
  refine c_cond (b := decide ((k : Int) < (l.length : Int))) rfl (fun hc2 => ?_) (fun hc2 => ?_)
  · simp only [decide_eq_true_eq] at hc2
    refine c_skip ?_
    refine q_then ?_
    refine c_seq ?_
    refine c_block ?_
    refine c_seq ?_
    refine c_region ?_
    refine o_pure (p_move (v := .int .i64 (k : Int)) rfl) rfl rfl rfl ?_
    refine o_pure (p_assign (v := .int .i64 (k : Int)) rfl) rfl rfl rfl ?_
    refine o_nil ?_
    refine q_then ?_
    refine c_seq ?_
    refine c_region ?_
    refine o_pure (p_move (v := .int .i64 v) rfl) rfl rfl rfl ?_
    refine o_pure (p_move (v := .slice al l.length cl) rfl) rfl rfl rfl ?_
    refine o_pure (p_move (v := .int .i64 (k : Int)) rfl) rfl rfl rfl ?_
    refine o_pure (p_indexAddr (L := l) (T := tInt) (i := (k : Int)) rfl rfl (rd_base (i := 0) rfl hl) Try.underlying45 sz3 (by omega) (by omega)) rfl rfl rfl ?_
    refine o_pure (p_loadE1 (i := k) (T := tInt) (L := l) (v := .int .i64 (l[k])) rfl (rd_base (i := 0) rfl hl) (by first | assumption | omega) sh3 rfl) rfl rfl rfl ?_
    refine o_pure (p_eq (p := v) (q := l[k]) rfl rfl) rfl rfl rfl ?_
    refine o_nil ?_
    refine q_then ?_
    refine c_cond (b := (v == l[k])) rfl (fun hc3 => ?_) (fun hc3 => ?_)
    · simp only [beq_iff_eq] at hc3
      refine c_seq ?_
      refine c_region ?_
      refine o_pure (p_move (v := .int .i64 (k : Int)) rfl) rfl rfl rfl ?_
      refine o_pure (p_assign (v := .int .i64 (k : Int)) rfl) rfl rfl rfl ?_
      refine o_nil ?_
      refine q_then ?_
      refine c_ret ?_
      refine q_block_ret (q_then_ret (q_then_ret (q_block_ret (q_then_ret ?_))))
      have hr0 : ((k : Int) : Int) = (idxF (fun x : Int => (x == v)) l) := by
        first | exact idxF_found (by omega) (by simp_all) (fun j h h2 => by simpa using hI.2 j h h2) | exact idxF_none (fun j h => by simpa using hI.2 j h (by omega))
      refine q_end0 (v := .int .i64 (k : Int)) (rt1 rfl (r_tmp rfl)) (i := 0) rfl ?_
      exact (by have hcc := congrArg (fun (y0 : Int) => (.int .i64 y0 : Value)) hr0; exact hcc)
    · simp only [beq_eq_false_iff_ne, ne_eq] at hc3
      refine c_skip ?_
      refine q_block_normal (q_then ?_)
      refine c_region ?_
      refine o_pure (p_addb (p := (k : Int)) (q := 1) rfl rfl (by omega)) rfl rfl rfl ?_
      refine o_pure (p_move (v := .int .i64 ((k : Int) + 1)) rfl) rfl rfl rfl ?_
      refine o_nil ?_
      refine q_round hK1 (k + 1) ?_ ?_ ?_ ?_
      · clear hK1
        refine ⟨by omega, fun j h h2 => ?_⟩
        by_cases e : j = k
        · subst e; intro h9; simp_all
        · exact hI.2 j h (by omega)
      · (try dsimp only); omega
      · exact Sub.cons rfl (Sub.cons rfl (Sub.cons rfl (Sub.cons rfl (Sub.nil _))))
      · exact fun _ hw => HeapIs.pick hw [0] (by decide) rfl
  · simp only [decide_eq_false_iff_not, Int.not_lt] at hc2
    refine c_exit ?_
    refine q_then_exit (q_then_exit (q_block_exit (q_then ?_)))
    refine c_seq ?_
    refine c_region ?_
    refine o_pure (p_assign (v := .int .i64 (-1)) rfl) rfl rfl rfl ?_
    refine o_nil ?_
    refine q_then ?_
    refine c_ret ?_
    have hr0 : ((-1) : Int) = (idxF (fun x : Int => (x == v)) l) := by
      first | exact idxF_found (by omega) (by simp_all) (fun j h h2 => by simpa using hI.2 j h h2) | exact idxF_none (fun j h => by simpa using hI.2 j h (by omega))
    refine q_end0 (v := .int .i64 (-1)) (rt1 rfl (r_tmp rfl)) (i := 0) rfl ?_
    exact (by have hcc := congrArg (fun (y0 : Int) => (.int .i64 y0 : Value)) hr0; exact hcc)

set_option maxHeartbeats 8000000 in
set_option maxRecDepth 100000 in
theorem delete_Int_ok (l : List Int) (al : Option Addr) (cl : Nat) (Sl : Nat → Prop) (i : Int) (j : Int) (hy1 : 0 ≤ i ∧ i ≤ j ∧ j ≤ (l.length : Int)) : FnX Try.prog 109 [.slice al l.length cl, .int .i64 i, .int .i64 j] [own tInt Sl al cl l] (fun _ => True) (Option Addr × Nat × (Nat → Prop)) (fun p => .slice p.1 (l.take i.toNat ++ l.drop j.toNat).length p.2.1) (fun p => [own tInt p.2.2 p.1 p.2.1 (l.take i.toNat ++ l.drop j.toNat)]) := by
  refine fnX (nt := 33) (F0 := [(0, .slice al l.length cl), (1, .int .i64 i), (2, .int .i64 j)]) Try.func109 rfl Try.ntmps109 rfl rfl (fun w0 hpre => ?_)
  refine c_know (fun w hw => own_len (i := 1) (T := tInt) hw rfl) (fun hlown_l => ?_)
  obtain ⟨hcown_l, hlown_l⟩ := hlown_l
  refine c_seq ?_
  refine c_region ?_
  refine o_pure (p_assign (v := .slice none 0 0) rfl) rfl rfl rfl ?_
  refine o_nil ?_
  refine q_then ?_
  refine c_seq ?_
  refine c_region ?_
  refine o_pure (p_move (v := .slice al l.length cl) rfl) rfl rfl rfl ?_
  refine o_pure (p_move (v := .int .i64 i) rfl) rfl rfl rfl ?_
  refine o_pure (p_move (v := .int .i64 j) rfl) rfl rfl rfl ?_
  refine o_pure (p_move (v := .slice al l.length cl) rfl) rfl rfl rfl ?_
  refine o_pure (p_len_slice (len := l.length) rfl rfl Try.underlying45) rfl rfl rfl ?_
  refine o_pure (p_sliceLHM (L := l) (T := tInt) (l := i) (h := j) (m := (l.length : Int)) rfl rfl rfl rfl Try.underlying45 sz3 (by omega) (by omega) (by omega) (by omega) (rd_own (i := 1) rfl)) rfl rfl rfl ?_
  refine o_nil ?_
  refine q_then ?_
  refine c_seq ?_
  refine c_seq ?_
  refine c_region ?_
  refine o_pure (p_move (v := .int .i64 i) rfl) rfl rfl rfl ?_
  refine o_pure (p_move (v := .int .i64 j) rfl) rfl rfl rfl ?_
  refine o_pure (p_eq (p := i) (q := j) rfl rfl) rfl rfl rfl ?_
  refine o_nil ?_
  refine q_then ?_
  refine c_cond (b := (i == j)) rfl (fun hc1 => ?_) (fun hc1 => ?_)
  · simp only [beq_iff_eq] at hc1
    refine c_seq ?_
    refine c_region ?_
    refine o_pure (p_move (v := .slice al l.length cl) rfl) rfl rfl rfl ?_
    refine o_pure (p_assign (v := .slice al l.length cl) rfl) rfl rfl rfl ?_
    refine o_nil ?_
    refine q_then ?_
    refine c_ret ?_
    refine q_then_ret ?_
    have hr0 : (l : List Int) = (l.take i.toNat ++ l.drop j.toNat) := by
      first | rfl | (have hij : i = j := (by assumption); subst hij; exact (List.take_append_drop _ _).symm)
    refine q_endX (p := (al, cl, Sl)) (rt1 rfl (r_tmp rfl)) ?_ (fun w hw => ?_)
    · exact (by have hcc := congrArg (fun (y0 : List Int) => (.slice al y0.length cl : Value)) hr0; exact hcc)
    · have h2 := hw.pick (H' := [outer w0 [own tInt Sl al cl l], own tInt Sl al cl l]) [0, 1] (by decide) rfl
      exact Eq.mp (congrArg (fun z => HeapIs w0 ((outer w0 [own tInt Sl al cl l]) :: z) w) ((by have hcc := congrArg (fun (y0 : List Int) => ([own tInt Sl al cl y0] : List Ent)) hr0; exact hcc))) h2
  · simp only [beq_eq_false_iff_ne, ne_eq] at hc1
    refine c_skip ?_
    refine q_then ?_
    refine c_seq ?_
    refine c_region ?_
    refine o_pure (p_move (v := .slice al l.length cl) rfl) rfl rfl rfl ?_
    refine o_pure (p_len_slice (len := l.length) rfl rfl Try.underlying45) rfl rfl rfl ?_
    refine o_pure (p_assign (v := .int .i64 (l.length : Int)) rfl) rfl rfl rfl ?_
    refine o_nil ?_
    refine q_then ?_
    refine c_seq ?_
    refine c_cut (G := Unit) (fun _ => [(0, .slice al ((l.take i.toNat) ++ (l.drop j.toNat)).length cl), (7, .int .i64 (l.length : Int))]) (fun _ => [outer w0 [own tInt Sl al cl l], own tInt Sl al cl ((l.take i.toNat) ++ (l.drop j.toNat))]) (fun K hK3 => ?_) ?_
    · refine c_held hmix [outer w0 [own tInt Sl al cl l]] rfl rfl ?_
      refine h_take (i := 0) (ls := #[true, false, false, false, false, false, false, false]) rfl (by kernel_rfl) (by kernel_rfl) (by kernel_rfl) (fun _ _ _ h => h) (p_move (v := .slice al l.length cl) rfl) rfl rfl rfl (fun _ hw => HeapIs.drop hw (List.Sublist.cons_cons _ (List.Sublist.cons _ (List.Sublist.slnil)))) rfl ?_
      refine h_take (i := 1) (ls := #[true, true, false, false, false, false, false, false]) rfl (by kernel_rfl) (by kernel_rfl) (by kernel_rfl) (fun _ _ _ h => h) (p_move (v := .int .i64 i) rfl) rfl rfl rfl (fun _ hw => HeapIs.drop hw (List.Sublist.cons_cons _ (List.Sublist.cons _ (List.Sublist.slnil)))) rfl ?_
      refine h_take (i := 3) (ls := #[true, true, false, true, false, false, false, false]) rfl (by kernel_rfl) (by kernel_rfl) (by kernel_rfl) (fun _ _ _ h => h) (p_move (v := .slice al l.length cl) rfl) rfl rfl rfl (fun _ hw => HeapIs.drop hw (List.Sublist.cons_cons _ (List.Sublist.cons _ (List.Sublist.slnil)))) rfl ?_
      refine h_take (i := 4) (ls := #[true, true, false, true, true, false, false, false]) rfl (by kernel_rfl) (by kernel_rfl) (by kernel_rfl) (fun _ _ _ h => h) (p_move (v := .int .i64 j) rfl) rfl rfl rfl (fun _ hw => HeapIs.drop hw (List.Sublist.cons_cons _ (List.Sublist.cons _ (List.Sublist.slnil)))) rfl ?_
      refine h_two (i := 2) (j := 5) (ls := #[true, true, true, true, true, false, false, false]) (ls' := #[true, true, false, true, true, true, false, false]) (by kernel_rfl) rfl rfl rfl rfl ?_ ?_
      · refine o_pure (p_sliceH (L := l) (T := tInt) (h := i) rfl rfl Try.underlying45 sz3 (by omega) (by omega) (rd_own (i := 1) rfl)) rfl rfl rfl ?_
        refine o_nil ?_
        refine h_next (fun _ hw => HeapIs.drop hw (List.Sublist.cons_cons _ (List.Sublist.cons _ (List.Sublist.slnil)))) ?_
        refine h_one (i := 5) (ls := #[true, true, true, true, true, true, false, false]) (by kernel_rfl) rfl rfl ?_
        refine o_pure (p_sliceL (L := l) (T := tInt) (l := j) rfl rfl Try.underlying45 sz3 (by omega) (by omega) (rd_own (i := 1) rfl)) rfl rfl rfl ?_
        refine o_nil ?_
        refine h_next (fun _ hw => HeapIs.drop hw (List.Sublist.cons_cons _ (List.Sublist.cons _ (List.Sublist.slnil)))) ?_
        refine h_one (i := 6) (ls := #[true, true, true, true, true, true, true, false]) (by kernel_rfl) rfl rfl ?_
        refine o_appendIn (i := 1) (m := i.toNat) (L := l) (M := (l.drop j.toNat)) (T := tInt) rfl rfl rfl (by omega) (rd_dropC (l := j.toNat) (rd_own (i := 1) rfl) (by omega)) Try.underlying45 Try.underlying45 (by intro k h; cases h) el3 (by intro z; simp [tInt, one1]) (by first | (simp only [List.length_drop]; omega) | (simp; omega)) rfl ?_
        refine o_nil ?_
        refine h_next (fun _ hw => HeapIs.drop hw (List.Sublist.cons_cons _ (List.Sublist.cons _ (List.Sublist.slnil)))) ?_
        refine h_take (i := 7) (ls := #[true, true, true, true, true, true, true, true]) rfl (by kernel_rfl) (by kernel_rfl) (by kernel_rfl) (fun _ _ _ h => h) (p_assign (v := .slice al ((l.take i.toNat) ++ (l.drop j.toNat)).length cl) rfl) rfl rfl rfl (fun _ hw => HeapIs.drop hw (List.Sublist.cons_cons _ (List.Sublist.cons _ (List.Sublist.slnil)))) rfl ?_
        refine h_done (by kernel_rfl) ?_
        refine q_kont hK3 () (Sub.cons rfl (Sub.cons rfl (Sub.nil _))) (fun _ hw => HeapIs.pick hw [0, 1] (by decide) rfl)
      · refine o_pure (p_sliceL (L := l) (T := tInt) (l := j) rfl rfl Try.underlying45 sz3 (by omega) (by omega) (rd_own (i := 1) rfl)) rfl rfl rfl ?_
        refine o_nil ?_
        refine h_next (fun _ hw => HeapIs.drop hw (List.Sublist.cons_cons _ (List.Sublist.cons _ (List.Sublist.slnil)))) ?_
        refine h_one (i := 2) (ls := #[true, true, true, true, true, true, false, false]) (by kernel_rfl) rfl rfl ?_
        refine o_pure (p_sliceH (L := l) (T := tInt) (h := i) rfl rfl Try.underlying45 sz3 (by omega) (by omega) (rd_own (i := 1) rfl)) rfl rfl rfl ?_
        refine o_nil ?_
        refine h_next (fun _ hw => HeapIs.drop hw (List.Sublist.cons_cons _ (List.Sublist.cons _ (List.Sublist.slnil)))) ?_
        refine h_one (i := 6) (ls := #[true, true, true, true, true, true, true, false]) (by kernel_rfl) rfl rfl ?_
        refine o_appendIn (i := 1) (m := i.toNat) (L := l) (M := (l.drop j.toNat)) (T := tInt) rfl rfl rfl (by omega) (rd_dropC (l := j.toNat) (rd_own (i := 1) rfl) (by omega)) Try.underlying45 Try.underlying45 (by intro k h; cases h) el3 (by intro z; simp [tInt, one1]) (by first | (simp only [List.length_drop]; omega) | (simp; omega)) rfl ?_
        refine o_nil ?_
        refine h_next (fun _ hw => HeapIs.drop hw (List.Sublist.cons_cons _ (List.Sublist.cons _ (List.Sublist.slnil)))) ?_
        refine h_take (i := 7) (ls := #[true, true, true, true, true, true, true, true]) rfl (by kernel_rfl) (by kernel_rfl) (by kernel_rfl) (fun _ _ _ h => h) (p_assign (v := .slice al ((l.take i.toNat) ++ (l.drop j.toNat)).length cl) rfl) rfl rfl rfl (fun _ hw => HeapIs.drop hw (List.Sublist.cons_cons _ (List.Sublist.cons _ (List.Sublist.slnil)))) rfl ?_
        refine h_done (by kernel_rfl) ?_
        refine q_kont hK3 () (Sub.cons rfl (Sub.cons rfl (Sub.nil _))) (fun _ hw => HeapIs.pick hw [0, 1] (by decide) rfl)
    rintro _
    show SQ _ 33 w0 _ _ [(0, .slice al ((l.take i.toNat) ++ (l.drop j.toNat)).length cl), (7, .int .i64 (l.length : Int))] [outer w0 [own tInt Sl al cl l], own tInt Sl al cl ((l.take i.toNat) ++ (l.drop j.toNat))]
    refine q_cast (F' := [(0, .slice al ((l.take i.toNat) ++ (l.drop j.toNat)).length cl), (7, .int .i64 (l.length : Int))]) (H := [outer w0 [own tInt Sl al cl l], own tInt Sl al cl ((l.take i.toNat) ++ (l.drop j.toNat))]) (H' := [outer w0 [own tInt Sl al cl l], own tInt Sl al cl ((l.take i.toNat) ++ (l.drop j.toNat))]) (Sub.cons rfl (Sub.cons rfl (Sub.nil _))) (by rfl) ?_
    refine q_then ?_
    refine c_seq ?_
    refine c_region ?_
    refine o_pure (p_move (v := .slice al ((l.take i.toNat) ++ (l.drop j.toNat)).length cl) rfl) rfl rfl rfl ?_
    refine o_pure (p_move (v := .slice al ((l.take i.toNat) ++ (l.drop j.toNat)).length cl) rfl) rfl rfl rfl ?_
    refine o_pure (p_len_slice (len := ((l.take i.toNat) ++ (l.drop j.toNat)).length) rfl rfl Try.underlying45) rfl rfl rfl ?_
    refine o_pure (p_move (v := .int .i64 (l.length : Int)) rfl) rfl rfl rfl ?_
    refine o_pure (p_sliceTail (i := 1) (L := ((l.take i.toNat) ++ (l.drop j.toNat))) (T := tInt) (h := (l.length : Int)) (m := (l.length - (l.take i.toNat ++ l.drop j.toNat).length)) rfl rfl rfl rfl Try.underlying45 sz3 (by simp only [List.length_append, List.length_take, List.length_drop]; omega)) rfl rfl rfl ?_
    refine o_clearTail (i := 1) (T := tInt) (m := (l.length - (l.take i.toNat ++ l.drop j.toNat).length)) rfl rfl rfl Try.underlying45 ze3 rfl rfl (by first | omega | (simp only [List.length_append, List.length_take, List.length_drop]; omega)) ?_
    refine o_nil ?_
    refine q_then ?_
    refine c_seq ?_
    refine c_region ?_
    refine o_pure (p_move (v := .slice al ((l.take i.toNat) ++ (l.drop j.toNat)).length cl) rfl) rfl rfl rfl ?_
    refine o_pure (p_assign (v := .slice al ((l.take i.toNat) ++ (l.drop j.toNat)).length cl) rfl) rfl rfl rfl ?_
    refine o_nil ?_
    refine q_then ?_
    refine c_ret ?_
    have hr0 : (((l.take i.toNat) ++ (l.drop j.toNat)) : List Int) = (l.take i.toNat ++ l.drop j.toNat) := by
      first | rfl | (have hij : i = j := (by assumption); subst hij; exact (List.take_append_drop _ _).symm)
    refine q_endX (p := (al, cl, Sl)) (rt1 rfl (r_tmp rfl)) ?_ (fun w hw => ?_)
    · exact (by have hcc := congrArg (fun (y0 : List Int) => (.slice al y0.length cl : Value)) hr0; exact hcc)
    · have h2 := hw.pick (H' := [outer w0 [own tInt Sl al cl l], own tInt Sl al cl ((l.take i.toNat) ++ (l.drop j.toNat))]) [0, 1] (by decide) rfl
      exact Eq.mp (congrArg (fun z => HeapIs w0 ((outer w0 [own tInt Sl al cl l]) :: z) w) ((by have hcc := congrArg (fun (y0 : List Int) => ([own tInt Sl al cl y0] : List Ent)) hr0; exact hcc))) h2

set_option maxHeartbeats 8000000 in
set_option maxRecDepth 100000 in
theorem insert_Int_ok (l : List Int) (al : Option Addr) (cl : Nat) (Sl : Nat → Prop) (i : Int) (v : List Int) (av : Option Addr) (cv : Nat) (Sv : Nat → Prop) (hy1 : 0 ≤ i ∧ i ≤ (l.length : Int) ∧ l.length ≤ 1000000 ∧ v.length = 1) : FnX Try.prog 110 [.slice al l.length cl, .int .i64 i, .slice av v.length cv] [own tInt Sl al cl l, own tInt Sv av cv v] (fun _ => True) (Option Addr × Nat × (Nat → Prop)) (fun p => .slice p.1 (l.take i.toNat ++ v ++ l.drop i.toNat).length p.2.1) (fun p => [own tInt p.2.2 p.1 p.2.1 (l.take i.toNat ++ v ++ l.drop i.toNat)]) := by
  refine fnX (nt := 95) (F0 := [(0, .slice al l.length cl), (1, .int .i64 i), (2, .slice av v.length cv)]) Try.func110 rfl Try.ntmps110 rfl rfl (fun w0 hpre => ?_)
  refine c_know (fun w hw => own_len (i := 1) (T := tInt) hw rfl) (fun hlown_l => ?_)
  obtain ⟨hcown_l, hlown_l⟩ := hlown_l
  refine c_know (fun w hw => own_len (i := 2) (T := tInt) hw rfl) (fun hlown_v => ?_)
  obtain ⟨hcown_v, hlown_v⟩ := hlown_v
  refine c_seq ?_
  refine c_region ?_
  refine o_pure (p_assign (v := .slice none 0 0) rfl) rfl rfl rfl ?_
  refine o_nil ?_
  refine q_then ?_
  refine c_seq ?_
  refine c_region ?_
  refine o_pure (p_move (v := .slice al l.length cl) rfl) rfl rfl rfl ?_
  refine o_pure (p_move (v := .int .i64 i) rfl) rfl rfl rfl ?_
  refine o_pure (p_sliceL (L := l) (T := tInt) (l := i) rfl rfl Try.underlying45 sz3 (by first | omega | (simp only [List.length_append, List.length_take, List.length_replicate, List.length_drop, List.length_set]; omega)) (by first | omega | (simp only [List.length_append, List.length_take, List.length_replicate, List.length_drop, List.length_set]; omega)) (rd_own (i := 1) rfl)) rfl rfl rfl ?_
  refine o_nil ?_
  refine q_then ?_
  refine c_seq ?_
  refine c_region ?_
  refine o_pure (p_move (v := .slice av v.length cv) rfl) rfl rfl rfl ?_
  refine o_pure (p_len_slice (len := v.length) rfl rfl Try.underlying45) rfl rfl rfl ?_
  refine o_pure (p_assign (v := .int .i64 (v.length : Int)) rfl) rfl rfl rfl ?_
  refine o_nil ?_
  refine q_then ?_
  refine c_seq ?_
  refine c_seq ?_
  refine c_region ?_
  refine o_pure (p_move (v := .int .i64 (v.length : Int)) rfl) rfl rfl rfl ?_
  refine o_pure (p_eq (p := (v.length : Int)) (q := 0) rfl rfl) rfl rfl rfl ?_
  refine o_nil ?_
  refine q_then ?_
  refine c_cond (b := ((v.length : Int) == 0)) rfl (fun hc1 => ?_) (fun hc1 => ?_)
  · simp only [beq_iff_eq] at hc1
    exfalso; omega
  · simp only [beq_eq_false_iff_ne, ne_eq] at hc1
    refine c_skip ?_
    refine q_then ?_
    refine c_seq ?_
    refine c_region ?_
    refine o_pure (p_move (v := .slice al l.length cl) rfl) rfl rfl rfl ?_
    refine o_pure (p_len_slice (len := l.length) rfl rfl Try.underlying45) rfl rfl rfl ?_
    refine o_pure (p_assign (v := .int .i64 (l.length : Int)) rfl) rfl rfl rfl ?_
    refine o_nil ?_
    refine q_then ?_
    refine c_seq ?_
    refine c_seq ?_
    refine c_region ?_
    refine o_pure (p_move (v := .int .i64 i) rfl) rfl rfl rfl ?_
    refine o_pure (p_move (v := .int .i64 (l.length : Int)) rfl) rfl rfl rfl ?_
    refine o_pure (p_eq (p := i) (q := (l.length : Int)) rfl rfl) rfl rfl rfl ?_
    refine o_nil ?_
    refine q_then ?_
    refine c_cond (b := (i == (l.length : Int))) rfl (fun hc2 => ?_) (fun hc2 => ?_)
    · simp only [beq_iff_eq] at hc2
      refine c_seq ?_
      refine c_region ?_
      refine o_pure (p_move (v := .slice al l.length cl) rfl) rfl rfl rfl ?_
      refine o_pure (p_move (v := .slice av v.length cv) rfl) rfl rfl rfl ?_
      refine o_append (i := 1) (L := l) (M := v) (T := tInt) rfl rfl rfl (rd_own (i := 2) rfl) Try.underlying45 Try.underlying45 (by intro k h; cases h) el3 (by intro z; simp [tInt, one1]) (by decide) (by first | omega | (simp only [List.length_cons, List.length_nil]; omega) | (simp only [List.length_append, List.length_cons, List.length_nil, List.length_take, List.length_drop]; omega)) rfl (fun a3 c4 S5 => ?_)
      refine o_pure (p_assign (v := .slice a3 (l ++ v).length c4) rfl) rfl rfl rfl ?_
      refine o_nil ?_
      refine q_then ?_
      refine c_ret ?_
      refine q_then_ret ?_
      have hr0 : ((l ++ v) : List Int) = (l.take i.toNat ++ v ++ l.drop i.toNat) := by
        first | rfl | (obtain rfl : i = (l.length : Int) := (by assumption); simp)
      refine q_endX (p := (a3, c4, S5)) (rt1 rfl (r_tmp rfl)) ?_ (fun w hw => ?_)
      · exact (by have hcc := congrArg (fun (y0 : List Int) => (.slice a3 y0.length c4 : Value)) hr0; exact hcc)
      · have h2 := hw.pick (H' := [outer w0 [own tInt Sl al cl l, own tInt Sv av cv v], own tInt S5 a3 c4 (l ++ v)]) [0, 1] (by decide) rfl
        exact Eq.mp (congrArg (fun z => HeapIs w0 ((outer w0 [own tInt Sl al cl l, own tInt Sv av cv v]) :: z) w) ((by have hcc := congrArg (fun (y0 : List Int) => ([own tInt S5 a3 c4 y0] : List Ent)) hr0; exact hcc))) h2
    · simp only [beq_eq_false_iff_ne, ne_eq] at hc2
      refine c_skip ?_
      refine q_then ?_
      refine c_seq ?_
      refine c_seq ?_
      refine c_region ?_
      refine o_pure (p_move (v := .int .i64 (l.length : Int)) rfl) rfl rfl rfl ?_
      refine o_pure (p_move (v := .int .i64 (v.length : Int)) rfl) rfl rfl rfl ?_
      refine o_pure (p_addb (p := (l.length : Int)) (q := (v.length : Int)) rfl rfl (by omega)) rfl rfl rfl ?_
      refine o_pure (p_move (v := .slice al l.length cl) rfl) rfl rfl rfl ?_
      refine o_pure (p_cap_slice rfl rfl Try.underlying45) rfl rfl rfl ?_
      refine o_pure (p_gt (p := ((l.length : Int) + (v.length : Int))) (q := (cl : Int)) rfl rfl) rfl rfl rfl ?_
      refine o_nil ?_
      refine q_then ?_
      refine c_cond (b := decide ((cl : Int) < ((l.length : Int) + (v.length : Int)))) rfl (fun hc6 => ?_) (fun hc6 => ?_)
      · simp only [decide_eq_true_eq] at hc6
        refine c_seq ?_
        refine c_region ?_
        refine o_pure (p_move (v := .slice al l.length cl) rfl) rfl rfl rfl ?_
        refine o_pure (p_move (v := .int .i64 i) rfl) rfl rfl rfl ?_
        refine o_pure (p_sliceH (L := l) (T := tInt) (h := i) rfl rfl Try.underlying45 sz3 (by first | omega | (simp only [List.length_append, List.length_take, List.length_replicate, List.length_drop, List.length_set]; omega)) (by first | omega | (simp only [List.length_append, List.length_take, List.length_replicate, List.length_drop, List.length_set]; omega)) (rd_own (i := 1) rfl)) rfl rfl rfl ?_
        refine o_pure (p_move (v := .int .i64 (l.length : Int)) rfl) rfl rfl rfl ?_
        refine o_pure (p_move (v := .int .i64 (v.length : Int)) rfl) rfl rfl rfl ?_
        refine o_pure (p_addb (p := (l.length : Int)) (q := (v.length : Int)) rfl rfl (by omega)) rfl rfl rfl ?_
        refine o_pure (p_move (v := .int .i64 i) rfl) rfl rfl rfl ?_
        refine o_pure (p_subb (p := ((l.length : Int) + (v.length : Int))) (q := i) rfl rfl (by omega)) rfl rfl rfl ?_
        refine o_appendZ (i := 1) (m := i.toNat) (k := (l.length + v.length - i.toNat)) (L := l) (T := tInt) (z := 0) rfl rfl rfl (by omega) Try.underlying45 Try.underlying3 el3 ze3 rfl (by decide) (by omega) rfl (fun a7 c8 S9 => ?_)
        refine o_know (fun w hw => own_len (i := 0) (T := tInt) hw rfl) (fun hlz11 => ?_)
        have hlz11b : ((l.take i.toNat) ++ (List.replicate (l.length + v.length - i.toNat) 0)).length = l.length + v.length := by simp only [List.length_append, List.length_take, List.length_replicate, List.length_drop, List.length_set]; omega
        refine o_pure (p_assign (v := .slice a7 ((l.take i.toNat) ++ (List.replicate (l.length + v.length - i.toNat) 0)).length c8) rfl) rfl rfl rfl ?_
        refine o_nil ?_
        refine q_then ?_
        refine c_seq ?_
        refine c_region ?_
        refine o_pure (p_move (v := .slice a7 ((l.take i.toNat) ++ (List.replicate (l.length + v.length - i.toNat) 0)).length c8) rfl) rfl rfl rfl ?_
        refine o_pure (p_move (v := .int .i64 i) rfl) rfl rfl rfl ?_
        refine o_pure (p_sliceL (L := ((l.take i.toNat) ++ (List.replicate (l.length + v.length - i.toNat) 0))) (T := tInt) (l := i) rfl rfl Try.underlying45 sz3 (by first | omega | (simp only [List.length_append, List.length_take, List.length_replicate, List.length_drop, List.length_set]; omega)) (by first | omega | (simp only [List.length_append, List.length_take, List.length_replicate, List.length_drop, List.length_set]; omega)) (rd_own (i := 0) rfl)) rfl rfl rfl ?_
        refine o_pure (p_move (v := .slice av v.length cv) rfl) rfl rfl rfl ?_
        refine o_copy (i := 0) (lo := i.toNat) (M := v) (T := tInt) (L := ((l.take i.toNat) ++ (List.replicate (l.length + v.length - i.toNat) 0))) (m := 1) (F' := [(0, .slice al l.length cl), (1, .int .i64 i), (7, .int .i64 (v.length : Int)), (9, .slice a7 (l.take i.toNat ++ v ++ List.replicate (l.length - i.toNat) 0).length c8)]) rfl rfl rfl (rd_own (i := 3) rfl) (by (try simp only [List.length_append, List.length_take, List.length_replicate, List.length_drop, List.length_set]); omega) Try.underlying45 sz3 (by intro z; simp [tInt, one1]) (by (try simp only [List.length_append, List.length_take, List.length_replicate, List.length_drop, List.length_set]); omega) rfl (by omega) (Sub.cons rfl (Sub.cons rfl (Sub.cons rfl (Sub.cons (by show some _ = some _; congr 2; first | (simp; omega) | simp) (Sub.nil _))))) ?_
        refine o_asH (H := [own tInt S9 a7 c8 (((l.take i.toNat) ++ (List.replicate (l.length + v.length - i.toNat) 0)).take i.toNat ++ v ++ ((l.take i.toNat) ++ (List.replicate (l.length + v.length - i.toNat) 0)).drop (i.toNat + v.length)), outer w0 [own tInt Sl al cl l, own tInt Sv av cv v], own tInt Sl al cl l, own tInt Sv av cv v]) (H' := [own tInt S9 a7 c8 (l.take i.toNat ++ v ++ List.replicate (l.length - i.toNat) 0), outer w0 [own tInt Sl al cl l, own tInt Sv av cv v], own tInt Sl al cl l, own tInt Sv av cv v]) (by have hins : ((((l.take i.toNat) ++ (List.replicate (l.length + v.length - i.toNat) 0)).take i.toNat ++ v ++ ((l.take i.toNat) ++ (List.replicate (l.length + v.length - i.toNat) 0)).drop (i.toNat + v.length)) : List Int) = (l.take i.toNat ++ v ++ List.replicate (l.length - i.toNat) 0) := (by exact ins_a (by omega) (by omega)); rw [hins]) ?_
        refine o_nil ?_
        refine q_then ?_
        refine c_seq ?_
        refine c_held hmix [ownE tInt S9 a7 c8 ((l.take i.toNat ++ v ++ List.replicate (l.length - i.toNat) 0).length), outer w0 [own tInt Sl al cl l, own tInt Sv av cv v], own tInt Sl al cl l, own tInt Sv av cv v] rfl rfl ?_
        refine h_take (i := 0) (ls := #[true, false, false, false, false, false, false, false, false]) rfl (by kernel_rfl) (by kernel_rfl) (by kernel_rfl) (fun _ _ _ h => h) (p_move (v := .slice a7 (l.take i.toNat ++ v ++ List.replicate (l.length - i.toNat) 0).length c8) rfl) rfl rfl rfl (fun _ hw => HeapIs.drop (HeapIs.toE (i := 0) (m := (l.take i.toNat ++ v ++ List.replicate (l.length - i.toNat) 0).length) (T := tInt) rfl (by first | rfl | (simp; done) | (simp; omega)) hw) (List.Sublist.refl _)) rfl ?_
        refine h_take (i := 1) (ls := #[true, true, false, false, false, false, false, false, false]) rfl (by kernel_rfl) (by kernel_rfl) (by kernel_rfl) (fun _ _ _ h => h) (p_move (v := .int .i64 i) rfl) rfl rfl rfl (fun _ hw => HeapIs.drop (HeapIs.toE (i := 0) (m := (l.take i.toNat ++ v ++ List.replicate (l.length - i.toNat) 0).length) (T := tInt) rfl (by first | rfl | (simp; done) | (simp; omega)) hw) (List.Sublist.refl _)) rfl ?_
        refine h_take (i := 2) (ls := #[true, true, true, false, false, false, false, false, false]) rfl (by kernel_rfl) (by kernel_rfl) (by kernel_rfl) (fun _ _ _ h => h) (p_move (v := .int .i64 (v.length : Int)) rfl) rfl rfl rfl (fun _ hw => HeapIs.drop (HeapIs.toE (i := 0) (m := (l.take i.toNat ++ v ++ List.replicate (l.length - i.toNat) 0).length) (T := tInt) rfl (by first | rfl | (simp; done) | (simp; omega)) hw) (List.Sublist.refl _)) rfl ?_
        refine h_take (i := 3) (ls := #[true, true, true, true, false, false, false, false, false]) rfl (by kernel_rfl) (by kernel_rfl) (by kernel_rfl) (fun _ _ _ h => h) (p_addb (p := i) (q := (v.length : Int)) rfl rfl (by omega)) rfl rfl rfl (fun _ hw => HeapIs.drop (HeapIs.toE (i := 0) (m := (l.take i.toNat ++ v ++ List.replicate (l.length - i.toNat) 0).length) (T := tInt) rfl (by first | rfl | (simp; done) | (simp; omega)) hw) (List.Sublist.refl _)) rfl ?_
        refine h_take (i := 4) (ls := #[true, true, true, true, true, false, false, false, false]) rfl (by kernel_rfl) (by kernel_rfl) (by kernel_rfl) (fun _ _ _ h => h) (p_sliceLE (j := 0) (m := (l.take i.toNat ++ v ++ List.replicate (l.length - i.toNat) 0).length) (T := tInt) (l := (i + (v.length : Int))) rfl rfl rfl Try.underlying45 sz3 (by omega) (by first | omega | (simp; omega))) rfl rfl rfl (fun _ hw => HeapIs.drop (HeapIs.toE (i := 0) (m := (l.take i.toNat ++ v ++ List.replicate (l.length - i.toNat) 0).length) (T := tInt) rfl (by first | rfl | (simp; done) | (simp; omega)) hw) (List.Sublist.refl _)) rfl ?_
        refine h_take (i := 5) (ls := #[true, true, true, true, true, true, false, false, false]) rfl (by kernel_rfl) (by kernel_rfl) (by kernel_rfl) (fun _ _ _ h => h) (p_move (v := .slice al l.length cl) rfl) rfl rfl rfl (fun _ hw => HeapIs.drop (HeapIs.toE (i := 0) (m := (l.take i.toNat ++ v ++ List.replicate (l.length - i.toNat) 0).length) (T := tInt) rfl (by first | rfl | (simp; done) | (simp; omega)) hw) (List.Sublist.refl _)) rfl ?_
        refine h_take (i := 6) (ls := #[true, true, true, true, true, true, true, false, false]) rfl (by kernel_rfl) (by kernel_rfl) (by kernel_rfl) (fun _ _ _ h => h) (p_move (v := .int .i64 i) rfl) rfl rfl rfl (fun _ hw => HeapIs.drop (HeapIs.toE (i := 0) (m := (l.take i.toNat ++ v ++ List.replicate (l.length - i.toNat) 0).length) (T := tInt) rfl (by first | rfl | (simp; done) | (simp; omega)) hw) (List.Sublist.refl _)) rfl ?_
        refine h_take (i := 7) (ls := #[true, true, true, true, true, true, true, true, false]) rfl (by kernel_rfl) (by kernel_rfl) (by kernel_rfl) (fun _ _ _ h => h) (p_sliceL (L := l) (T := tInt) (l := i) rfl rfl Try.underlying45 sz3 (by first | omega | (simp only [List.length_append, List.length_take, List.length_replicate, List.length_drop, List.length_set]; omega)) (by first | omega | (simp only [List.length_append, List.length_take, List.length_replicate, List.length_drop, List.length_set]; omega)) (rd_own (i := 2) rfl)) rfl rfl rfl (fun _ hw => HeapIs.drop (HeapIs.toE (i := 0) (m := (l.take i.toNat ++ v ++ List.replicate (l.length - i.toNat) 0).length) (T := tInt) rfl (by first | rfl | (simp; done) | (simp; omega)) hw) (List.Sublist.refl _)) rfl ?_
        refine h_one (i := 8) (ls := #[true, true, true, true, true, true, true, true, true]) (by kernel_rfl) rfl rfl ?_
        refine o_copy (i := 0) (lo := (i + (v.length : Int)).toNat) (M := (l.drop i.toNat)) (T := tInt) (L := (l.take i.toNat ++ v ++ List.replicate (l.length - i.toNat) 0)) (m := (l.length - i.toNat)) (F' := [(0, .slice al l.length cl), (1, .int .i64 i), (7, .int .i64 (v.length : Int)), (9, .slice a7 (l.take i.toNat ++ v ++ l.drop i.toNat).length c8)]) rfl rfl rfl (rd_dropC (l := i.toNat) (rd_own (i := 2) rfl) (by first | omega | (simp only [List.length_append, List.length_take, List.length_replicate, List.length_drop, List.length_set]; omega))) (by (try simp only [List.length_append, List.length_take, List.length_replicate, List.length_drop, List.length_set]); omega) Try.underlying45 sz3 (by intro z; simp [tInt, one1]) (by (try simp only [List.length_append, List.length_take, List.length_replicate, List.length_drop, List.length_set]); omega) rfl (by simp) (Sub.cons rfl (Sub.cons rfl (Sub.cons rfl (Sub.cons (by show some _ = some _; congr 2; first | (simp; omega) | simp) (Sub.nil _))))) ?_
        refine o_asH (H := [own tInt S9 a7 c8 ((l.take i.toNat ++ v ++ List.replicate (l.length - i.toNat) 0).take ((i + (v.length : Int)).toNat) ++ (l.drop i.toNat) ++ (l.take i.toNat ++ v ++ List.replicate (l.length - i.toNat) 0).drop (((i + (v.length : Int)).toNat) + (l.drop i.toNat).length)), outer w0 [own tInt Sl al cl l, own tInt Sv av cv v], own tInt Sl al cl l, own tInt Sv av cv v]) (H' := [own tInt S9 a7 c8 (l.take i.toNat ++ v ++ l.drop i.toNat), outer w0 [own tInt Sl al cl l, own tInt Sv av cv v], own tInt Sl al cl l, own tInt Sv av cv v]) (by have hins : (((l.take i.toNat ++ v ++ List.replicate (l.length - i.toNat) 0).take ((i + (v.length : Int)).toNat) ++ (l.drop i.toNat) ++ (l.take i.toNat ++ v ++ List.replicate (l.length - i.toNat) 0).drop (((i + (v.length : Int)).toNat) + (l.drop i.toNat).length)) : List Int) = (l.take i.toNat ++ v ++ l.drop i.toNat) := (by exact ins_b (by omega) (by omega) (by omega)); rw [hins]) ?_
        refine o_nil ?_
        refine h_next (fun _ hw => HeapIs.drop (HeapIs.toE (i := 0) (m := (l.take i.toNat ++ v ++ List.replicate (l.length - i.toNat) 0).length) (T := tInt) rfl (by first | rfl | (simp; done) | (simp; omega)) hw) (List.Sublist.refl _)) ?_
        refine h_done (by kernel_rfl) ?_
        refine q_cast (F' := [(9, .slice a7 (l.take i.toNat ++ v ++ l.drop i.toNat).length c8)]) (H := [own tInt S9 a7 c8 (l.take i.toNat ++ v ++ l.drop i.toNat), outer w0 [own tInt Sl al cl l, own tInt Sv av cv v], own tInt Sl al cl l, own tInt Sv av cv v]) (H' := [own tInt S9 a7 c8 (l.take i.toNat ++ v ++ l.drop i.toNat), outer w0 [own tInt Sl al cl l, own tInt Sv av cv v], own tInt Sl al cl l, own tInt Sv av cv v]) (Sub.cons rfl (Sub.nil _)) (by rfl) ?_
        refine q_then ?_
        refine c_seq ?_
        refine c_region ?_
        refine o_pure (p_move (v := .slice a7 (l.take i.toNat ++ v ++ l.drop i.toNat).length c8) rfl) rfl rfl rfl ?_
        refine o_pure (p_assign (v := .slice a7 (l.take i.toNat ++ v ++ l.drop i.toNat).length c8) rfl) rfl rfl rfl ?_
        refine o_nil ?_
        refine q_then ?_
        refine c_ret ?_
        refine q_then_ret ?_
        refine q_endX (p := (a7, c8, S9)) (rt1 rfl (r_tmp rfl)) ?_ (fun w hw => ?_)
        · exact rfl
        · have h2 := hw.pick (H' := [outer w0 [own tInt Sl al cl l, own tInt Sv av cv v], own tInt S9 a7 c8 (l.take i.toNat ++ v ++ l.drop i.toNat)]) [1, 0] (by decide) rfl
          exact Eq.mp (congrArg (fun z => HeapIs w0 ((outer w0 [own tInt Sl al cl l, own tInt Sv av cv v]) :: z) w) (rfl)) h2
      · simp only [decide_eq_false_iff_not, Int.not_lt] at hc6
        refine c_skip ?_
        refine q_then ?_
        refine c_seq ?_
        refine c_region ?_
        refine o_pure (p_move (v := .slice al l.length cl) rfl) rfl rfl rfl ?_
        refine o_pure (p_move (v := .int .i64 (l.length : Int)) rfl) rfl rfl rfl ?_
        refine o_pure (p_move (v := .int .i64 (v.length : Int)) rfl) rfl rfl rfl ?_
        refine o_pure (p_addb (p := (l.length : Int)) (q := (v.length : Int)) rfl rfl (by omega)) rfl rfl rfl ?_
        refine o_pure (p_slice0 (hi := (l.length + v.length)) (hv := ((l.length : Int) + (v.length : Int))) rfl rfl Try.underlying45 sz3 (by omega) (by omega)) rfl rfl rfl ?_
        refine o_pure (p_assign (v := .slice al (l.length + v.length) cl) rfl) rfl rfl rfl ?_
        refine o_nil ?_
        refine q_then ?_
        refine c_seq ?_
        refine c_seq ?_
        refine c_region ?_
        refine o_pure (p_move (v := .slice av v.length cv) rfl) rfl rfl rfl ?_
        refine o_pure (p_move (v := .slice al (l.length + v.length) cl) rfl) rfl rfl rfl ?_
        refine o_pure (p_move (v := .int .i64 i) rfl) rfl rfl rfl ?_
        refine o_pure (p_move (v := .int .i64 (v.length : Int)) rfl) rfl rfl rfl ?_
        refine o_pure (p_addb (p := i) (q := (v.length : Int)) rfl rfl (by omega)) rfl rfl rfl ?_
        refine o_pure (p_slice (l := (i.toNat + 1)) (hi := (l.length + v.length)) (m := cl) (lv := some (.int .i64 (i + (v.length : Int)))) (hv := none) (mv := none) rfl rfl rfl rfl Try.underlying45 sz3 (.inr ⟨.i64, by congr 1; congr 1; omega⟩) (.inl ⟨rfl, rfl⟩) (.inl ⟨rfl, rfl⟩) (fun _ => rfl) (by omega) (by omega) (Nat.le_refl _) rfl) rfl rfl rfl ?_
        refine o_pure (p_overlaps (tS := 45) (tR := 4) (i := 1) (j := 2) (lo := (i.toNat + 1)) (M := v) Try.func119 (by kernel_rfl) (by kernel_rfl) (by kernel_rfl) (by kernel_rfl) rfl rfl rfl rfl (by decide) Try.underlying45 sz3 (by omega) (by omega) (by decide)) rfl rfl rfl ?_
        refine o_pure (p_not (b := false) rfl) rfl rfl rfl ?_
        refine o_nil ?_
        refine q_then ?_
        refine c_true rfl ?_
        refine c_seq ?_
        refine c_held hmix [outer w0 [own tInt Sl al cl l, own tInt Sv av cv v], own tInt Sv av cv v] rfl rfl ?_
        refine h_take (i := 0) (ls := #[true, false, false, false, false, false, false, false, false]) rfl (by kernel_rfl) (by kernel_rfl) (by kernel_rfl) (fun _ _ _ h => h) (p_move (v := .slice al (l.length + v.length) cl) rfl) rfl rfl rfl (fun _ hw => HeapIs.drop hw (List.Sublist.cons_cons _ (List.Sublist.cons _ (List.Sublist.cons_cons _ (List.Sublist.slnil))))) rfl ?_
        refine h_take (i := 1) (ls := #[true, true, false, false, false, false, false, false, false]) rfl (by kernel_rfl) (by kernel_rfl) (by kernel_rfl) (fun _ _ _ h => h) (p_move (v := .int .i64 i) rfl) rfl rfl rfl (fun _ hw => HeapIs.drop hw (List.Sublist.cons_cons _ (List.Sublist.cons _ (List.Sublist.cons_cons _ (List.Sublist.slnil))))) rfl ?_
        refine h_take (i := 2) (ls := #[true, true, true, false, false, false, false, false, false]) rfl (by kernel_rfl) (by kernel_rfl) (by kernel_rfl) (fun _ _ _ h => h) (p_move (v := .int .i64 (v.length : Int)) rfl) rfl rfl rfl (fun _ hw => HeapIs.drop hw (List.Sublist.cons_cons _ (List.Sublist.cons _ (List.Sublist.cons_cons _ (List.Sublist.slnil))))) rfl ?_
        refine h_take (i := 3) (ls := #[true, true, true, true, false, false, false, false, false]) rfl (by kernel_rfl) (by kernel_rfl) (by kernel_rfl) (fun _ _ _ h => h) (p_addb (p := i) (q := (v.length : Int)) rfl rfl (by omega)) rfl rfl rfl (fun _ hw => HeapIs.drop hw (List.Sublist.cons_cons _ (List.Sublist.cons _ (List.Sublist.cons_cons _ (List.Sublist.slnil))))) rfl ?_
        refine h_take (i := 4) (ls := #[true, true, true, true, true, false, false, false, false]) rfl (by kernel_rfl) (by kernel_rfl) (by kernel_rfl) (fun _ _ _ h => h) (p_slice (l := (i.toNat + 1)) (hi := (l.length + v.length)) (m := cl) (lv := some (.int .i64 (i + (v.length : Int)))) (hv := none) (mv := none) rfl rfl rfl rfl Try.underlying45 sz3 (.inr ⟨.i64, by congr 1; congr 1; omega⟩) (.inl ⟨rfl, rfl⟩) (.inl ⟨rfl, rfl⟩) (fun _ => rfl) (by omega) (by omega) (Nat.le_refl _) rfl) rfl rfl rfl (fun _ hw => HeapIs.drop hw (List.Sublist.cons_cons _ (List.Sublist.cons _ (List.Sublist.cons_cons _ (List.Sublist.slnil))))) rfl ?_
        refine h_take (i := 5) (ls := #[true, true, true, true, true, true, false, false, false]) rfl (by kernel_rfl) (by kernel_rfl) (by kernel_rfl) (fun _ _ _ h => h) (p_move (v := .slice al (l.length + v.length) cl) rfl) rfl rfl rfl (fun _ hw => HeapIs.drop hw (List.Sublist.cons_cons _ (List.Sublist.cons _ (List.Sublist.cons_cons _ (List.Sublist.slnil))))) rfl ?_
        refine h_take (i := 6) (ls := #[true, true, true, true, true, true, true, false, false]) rfl (by kernel_rfl) (by kernel_rfl) (by kernel_rfl) (fun _ _ _ h => h) (p_move (v := .int .i64 i) rfl) rfl rfl rfl (fun _ hw => HeapIs.drop hw (List.Sublist.cons_cons _ (List.Sublist.cons _ (List.Sublist.cons_cons _ (List.Sublist.slnil))))) rfl ?_
        refine h_take (i := 7) (ls := #[true, true, true, true, true, true, true, true, false]) rfl (by kernel_rfl) (by kernel_rfl) (by kernel_rfl) (fun _ _ _ h => h) (p_slice (l := i.toNat) (hi := (l.length + v.length)) (m := cl) (lv := some (.int .i64 i)) (hv := none) (mv := none) rfl rfl rfl rfl Try.underlying45 sz3 (.inr ⟨.i64, by congr 1; congr 1; omega⟩) (.inl ⟨rfl, rfl⟩) (.inl ⟨rfl, rfl⟩) (fun _ => rfl) (by omega) (by omega) (Nat.le_refl _) rfl) rfl rfl rfl (fun _ hw => HeapIs.drop hw (List.Sublist.cons_cons _ (List.Sublist.cons _ (List.Sublist.cons_cons _ (List.Sublist.slnil))))) rfl ?_
        refine h_one (i := 8) (ls := #[true, true, true, true, true, true, true, true, true]) (by kernel_rfl) rfl rfl ?_
        refine o_copy (i := 1) (lo := (i.toNat + 1)) (M := (l.drop i.toNat)) (T := tInt) (L := l) (m := (l.length - i.toNat)) (F' := [(0, .slice al (l.take (i.toNat + 1) ++ l.drop i.toNat).length cl), (1, .int .i64 i), (2, .slice av v.length cv), (7, .int .i64 (v.length : Int)), (8, .int .i64 (l.length : Int)), (68, .bool true)]) rfl rfl rfl (rd_dropC (l := i.toNat) (rd_own (i := 1) rfl) (by omega)) (by (try simp only [List.length_append, List.length_take, List.length_replicate, List.length_drop, List.length_set]); omega) Try.underlying45 sz3 (by intro z; simp [tInt, one1]) (by (try simp only [List.length_append, List.length_take, List.length_replicate, List.length_drop, List.length_set]); omega) rfl (by simp) (Sub.cons (by show some _ = some _; congr 2; first | (simp; omega) | simp) (Sub.cons rfl (Sub.cons rfl (Sub.cons rfl (Sub.cons rfl (Sub.cons rfl (Sub.nil _))))))) ?_
        refine o_asH (H := [outer w0 [own tInt Sl al cl l, own tInt Sv av cv v], own tInt Sl al cl (l.take (i.toNat + 1) ++ (l.drop i.toNat) ++ l.drop ((i.toNat + 1) + (l.drop i.toNat).length)), own tInt Sv av cv v]) (H' := [outer w0 [own tInt Sl al cl l, own tInt Sv av cv v], own tInt Sl al cl (l.take (i.toNat + 1) ++ l.drop i.toNat), own tInt Sv av cv v]) (by have hins : ((l.take (i.toNat + 1) ++ (l.drop i.toNat) ++ l.drop ((i.toNat + 1) + (l.drop i.toNat).length)) : List Int) = (l.take (i.toNat + 1) ++ l.drop i.toNat) := (by exact ins_c (by omega) (by omega)); rw [hins]) ?_
        refine o_nil ?_
        refine h_next (fun _ hw => HeapIs.drop hw (List.Sublist.cons_cons _ (List.Sublist.cons _ (List.Sublist.cons_cons _ (List.Sublist.slnil))))) ?_
        refine h_done (by kernel_rfl) ?_
        refine q_cast (F' := [(0, .slice al (l.take (i.toNat + 1) ++ l.drop i.toNat).length cl), (1, .int .i64 i), (2, .slice av v.length cv)]) (H := [outer w0 [own tInt Sl al cl l, own tInt Sv av cv v], own tInt Sl al cl (l.take (i.toNat + 1) ++ l.drop i.toNat), own tInt Sv av cv v]) (H' := [outer w0 [own tInt Sl al cl l, own tInt Sv av cv v], own tInt Sl al cl (l.take (i.toNat + 1) ++ l.drop i.toNat), own tInt Sv av cv v]) (Sub.cons rfl (Sub.cons rfl (Sub.cons rfl (Sub.nil _)))) (by rfl) ?_
        refine q_then ?_
        refine c_seq ?_
        refine c_region ?_
        refine o_pure (p_move (v := .slice al (l.take (i.toNat + 1) ++ l.drop i.toNat).length cl) rfl) rfl rfl rfl ?_
        refine o_pure (p_move (v := .int .i64 i) rfl) rfl rfl rfl ?_
        refine o_pure (p_sliceL (L := (l.take (i.toNat + 1) ++ l.drop i.toNat)) (T := tInt) (l := i) rfl rfl Try.underlying45 sz3 (by first | omega | (simp only [List.length_append, List.length_take, List.length_replicate, List.length_drop, List.length_set]; omega)) (by first | omega | (simp only [List.length_append, List.length_take, List.length_replicate, List.length_drop, List.length_set]; omega)) (rd_own (i := 1) rfl)) rfl rfl rfl ?_
        refine o_pure (p_move (v := .slice av v.length cv) rfl) rfl rfl rfl ?_
        refine o_copy (i := 1) (lo := i.toNat) (M := v) (T := tInt) (L := (l.take (i.toNat + 1) ++ l.drop i.toNat)) (m := 1) (F' := [(0, .slice al (l.take i.toNat ++ v ++ l.drop i.toNat).length cl)]) rfl rfl rfl (rd_own (i := 2) rfl) (by (try simp only [List.length_append, List.length_take, List.length_replicate, List.length_drop, List.length_set]); omega) Try.underlying45 sz3 (by intro z; simp [tInt, one1]) (by (try simp only [List.length_append, List.length_take, List.length_replicate, List.length_drop, List.length_set]); omega) rfl (by omega) (Sub.cons (by show some _ = some _; congr 2; first | (simp; omega) | simp) (Sub.nil _)) ?_
        refine o_asH (H := [outer w0 [own tInt Sl al cl l, own tInt Sv av cv v], own tInt Sl al cl ((l.take (i.toNat + 1) ++ l.drop i.toNat).take i.toNat ++ v ++ (l.take (i.toNat + 1) ++ l.drop i.toNat).drop (i.toNat + v.length)), own tInt Sv av cv v]) (H' := [outer w0 [own tInt Sl al cl l, own tInt Sv av cv v], own tInt Sl al cl (l.take i.toNat ++ v ++ l.drop i.toNat), own tInt Sv av cv v]) (by have hins : (((l.take (i.toNat + 1) ++ l.drop i.toNat).take i.toNat ++ v ++ (l.take (i.toNat + 1) ++ l.drop i.toNat).drop (i.toNat + v.length)) : List Int) = (l.take i.toNat ++ v ++ l.drop i.toNat) := (by exact ins_d (by omega) (by omega)); rw [hins]) ?_
        refine o_nil ?_
        refine q_then ?_
        refine c_seq ?_
        refine c_region ?_
        refine o_pure (p_move (v := .slice al (l.take i.toNat ++ v ++ l.drop i.toNat).length cl) rfl) rfl rfl rfl ?_
        refine o_pure (p_assign (v := .slice al (l.take i.toNat ++ v ++ l.drop i.toNat).length cl) rfl) rfl rfl rfl ?_
        refine o_nil ?_
        refine q_then ?_
        refine c_ret ?_
        refine q_then_ret ?_
        refine q_endX (p := (al, cl, Sl)) (rt1 rfl (r_tmp rfl)) ?_ (fun w hw => ?_)
        · exact rfl
        · have h2 := hw.pick (H' := [outer w0 [own tInt Sl al cl l, own tInt Sv av cv v], own tInt Sl al cl (l.take i.toNat ++ v ++ l.drop i.toNat)]) [0, 1] (by decide) rfl
          exact Eq.mp (congrArg (fun z => HeapIs w0 ((outer w0 [own tInt Sl al cl l, own tInt Sv av cv v]) :: z) w) (rfl)) h2

set_option maxHeartbeats 8000000 in
set_option maxRecDepth 100000 in
theorem keys_ok (l : List Int) (al : Option Addr) (cl : Nat) : Fn0 Try.prog 106 [.slice al l.length cl] (fun w => Rd tInt w al cl l) (.int .i64 (Lru.keys l)) := by
  refine fn0 (nt := 29) (F0 := [(0, .slice al l.length cl)]) Try.func106 rfl Try.ntmps106 rfl rfl (fun w0 hpre => ?_)
  have hl := hpre
  have hlhl := hl.2.1
  refine c_seq ?_
  refine c_region ?_
  refine o_pure (p_assign (v := .int .i64 0) rfl) rfl rfl rfl ?_
  refine o_nil ?_
  refine q_then ?_
  refine c_seq ?_
  refine c_region ?_
  refine o_makeMap (ν := Unit) kInt (fun _ => .agg #[]) rfl (fun B1 => ?_)
  refine o_pure (p_assign (v := .map (some B1)) rfl) rfl rfl rfl ?_
  refine o_nil ?_
  refine q_then ?_
  refine c_seq ?_
  refine c_seq ?_
  refine c_region ?_
  refine o_pure (p_move (v := .slice al l.length cl) rfl) rfl rfl rfl ?_
  refine o_pure (p_len_slice (len := l.length) rfl rfl Try.underlying45) rfl rfl rfl ?_
  refine o_pure (p_move (v := .int .i64 0) rfl) rfl rfl rfl ?_
  refine o_nil ?_
  refine q_then ?_
  refine c_block ?_
  refine c_loop (St := Nat × List (Int × Unit))
    (fun ⟨k, m⟩ => [(3, .map (some B1)), (9, .slice al l.length cl), (10, .int .i64 (l.length : Int)), (11, .int .i64 (k : Int))])
    (fun ⟨k, m⟩ => [mapE kInt (fun _ => .agg #[]) B1 m, base w0])
    (fun ⟨k, m⟩ => k ≤ l.length ∧ Lru.keysGo (l.take k) (l.drop k) = Lru.keys l ∧ Lru.Seen m l k)
    (fun ⟨k, m⟩ => l.length - k)
    (0, []) ?_ (Sub.cons rfl (Sub.cons rfl (Sub.cons rfl (Sub.cons rfl (Sub.nil _))))) (fun _ hw => hw) ?_
  · exact ⟨Nat.zero_le _, rfl, Lru.Seen.start l⟩
  rintro ⟨k, m⟩ hI K hK2
  obtain ⟨hI1, hI2, hI3⟩ := hI
  show SC _ _ Try.prog 29 w0 _ _ [(3, .map (some B1)), (9, .slice al l.length cl), (10, .int .i64 (l.length : Int)), (11, .int .i64 (k : Int))] [mapE kInt (fun _ => .agg #[]) B1 m, base w0]
  refine c_seq ?_
  refine c_region ?_
  refine o_pure (p_lt (p := (k : Int)) (q := (l.length : Int)) rfl rfl) rfl rfl rfl ?_
  refine o_nil ?_
  refine q_then ?_
  refine c_seq ?_
  refine c_cond (b := decide ((k : Int) < (l.length : Int))) rfl (fun hc3 => ?_) (fun hc3 => ?_)
  · simp only [decide_eq_true_eq] at hc3
    refine c_skip ?_
    refine q_then ?_
    refine c_seq ?_
    refine c_block ?_
    refine c_seq ?_
    refine c_region ?_
    refine o_pure (p_indexAddr (L := l) (T := tInt) (i := (k : Int)) rfl rfl (rd_base (i := 1) rfl hl) Try.underlying45 sz3 (by omega) (by omega)) rfl rfl rfl ?_
    refine o_pure (p_loadE1 (i := k) (T := tInt) (L := l) (v := .int .i64 (l[k])) rfl (rd_base (i := 1) rfl hl) (by first | assumption | omega) sh3 rfl) rfl rfl rfl ?_
    refine o_pure (p_assign (v := .int .i64 (l[k])) rfl) rfl rfl rfl ?_
    refine o_nil ?_
    refine q_then ?_
    refine c_seq ?_
    refine c_seq ?_
    refine c_region ?_
    refine o_pure (p_move (v := .int .i64 (l[k])) rfl) rfl rfl rfl ?_
    refine o_call0 (v := .bool (Lru.okKey (l[k]))) rfl (key_ok (l[k])) hf85 (fun _ _ => trivial) rfl ?_
    refine o_pure (p_not (b := (Lru.okKey (l[k]))) rfl) rfl rfl rfl ?_
    refine o_nil ?_
    refine q_then ?_
    refine c_cond (b := (!(Lru.okKey (l[k])))) rfl (fun hc4 => ?_) (fun hc4 => ?_)
    · simp only [Bool.not_eq_true'] at hc4
      refine c_seq ?_
      refine c_region ?_
      refine o_pure (p_assign (v := .int .i64 3) rfl) rfl rfl rfl ?_
      refine o_nil ?_
      refine q_then ?_
      refine c_ret ?_
      refine q_then_ret (q_block_ret (q_then_ret (q_then_ret (q_block_ret (q_then_ret ?_)))))
      have hr0 : (3 : Int) = (Lru.keys l) := by
        first | exact Lru.keys_bad (by omega) hI2 (by assumption) | exact Lru.keys_twice (by omega) hI2 (by assumption) ((hI3 _).1 (by assumption)) | exact Lru.keys_end (by omega) hI2
      refine q_end0 (v := .int .i64 3) (rt1 rfl (r_tmp rfl)) (i := 1) rfl ?_
      exact (by have hcc := congrArg (fun (y0 : Int) => (.int .i64 y0 : Value)) hr0; exact hcc)
    · simp only [Bool.not_eq_false'] at hc4
      refine c_skip ?_
      refine q_then ?_
      refine c_seq ?_
      refine c_seq ?_
      refine c_region ?_
      refine o_pure (p_move (v := .map (some B1)) rfl) rfl rfl rfl ?_
      refine o_pure (p_move (v := .int .i64 (l[k])) rfl) rfl rfl rfl ?_
      refine o_pure (p_lookup2 (i := 0) (K := kInt) (ve := (fun _ => .agg #[])) (m := m) (k := l[k]) (dflt := ()) rfl rfl rfl Try.underlying145 Try.underlying3 zv101) rfl rfl rfl ?_
      refine o_pure (p_move (v := .tuple #[.agg #[], .bool ((AL.get m (l[k])).isSome)]) rfl) rfl rfl rfl ?_
      refine o_pure (p_extract (vs := [.agg #[], .bool ((AL.get m (l[k])).isSome)]) (v := .agg #[]) rfl rfl) rfl rfl rfl ?_
      refine o_pure (p_extract (vs := [.agg #[], .bool ((AL.get m (l[k])).isSome)]) (v := .bool ((AL.get m (l[k])).isSome)) rfl rfl) rfl rfl rfl ?_
      refine o_alloc ze101 rfl (fun B5 => ?_)
      refine o_storeN (i := 0) (vs := []) (cs' := []) rfl rfl rfl sz101 rfl rfl rfl rfl ?_
      refine o_pure (p_assign (v := .bool ((AL.get m (l[k])).isSome)) rfl) rfl rfl rfl ?_
      refine o_nil ?_
      refine q_then ?_
      refine c_seq ?_
      refine c_region ?_
      refine o_pure (p_move (v := .bool ((AL.get m (l[k])).isSome)) rfl) rfl rfl rfl ?_
      refine o_nil ?_
      refine q_then ?_
      refine c_cond (b := (AL.get m (l[k])).isSome) rfl (fun hc6 => ?_) (fun hc6 => ?_)
      · skip
        refine c_seq ?_
        refine c_region ?_
        refine o_pure (p_assign (v := .int .i64 6) rfl) rfl rfl rfl ?_
        refine o_nil ?_
        refine q_then ?_
        refine c_ret ?_
        refine q_then_ret (q_block_ret (q_then_ret (q_then_ret (q_block_ret (q_then_ret ?_)))))
        have hr0 : (6 : Int) = (Lru.keys l) := by
          first | exact Lru.keys_bad (by omega) hI2 (by assumption) | exact Lru.keys_twice (by omega) hI2 (by assumption) ((hI3 _).1 (by assumption)) | exact Lru.keys_end (by omega) hI2
        refine q_end0 (v := .int .i64 6) (rt1 rfl (r_tmp rfl)) (i := 2) rfl ?_
        exact (by have hcc := congrArg (fun (y0 : Int) => (.int .i64 y0 : Value)) hr0; exact hcc)
      · skip
        refine c_skip ?_
        refine q_then ?_
        refine c_region ?_
        refine o_pure (p_move (v := .map (some B1)) rfl) rfl rfl rfl ?_
        refine o_pure (p_move (v := .int .i64 (l[k])) rfl) rfl rfl rfl ?_
        refine o_pure (p_build (cells := []) fp101 ze101 rfl rfl) rfl rfl rfl ?_
        refine o_mapUpdate (i := 1) (K := kInt) (ve := (fun _ => .agg #[])) (m := m) (k := l[k]) (v := ()) rfl rfl rfl rfl Try.underlying145 Try.underlying3 ?_
        refine o_nil ?_
        refine q_block_normal (q_then ?_)
        refine c_region ?_
        refine o_pure (p_addb (p := (k : Int)) (q := 1) rfl rfl (by omega)) rfl rfl rfl ?_
        refine o_pure (p_move (v := .int .i64 ((k : Int) + 1)) rfl) rfl rfl rfl ?_
        refine o_nil ?_
        refine q_round hK2 (k + 1, (AL.set m (l[k]) ())) ?_ ?_ ?_ ?_
        · clear hK2
          exact ⟨by omega, Lru.keys_next (by omega) hI2 (by assumption) (fun hm => by have := (hI3 _).2 hm; simp_all), hI3.next (by omega) _⟩
        · (try dsimp only); omega
        · exact Sub.cons rfl (Sub.cons rfl (Sub.cons rfl (Sub.cons rfl (Sub.nil _))))
        · exact fun _ hw => HeapIs.pick hw [1, 2] (by decide) rfl
  · simp only [decide_eq_false_iff_not, Int.not_lt] at hc3
    refine c_exit ?_
    refine q_then_exit (q_then_exit (q_block_exit (q_then ?_)))
    refine c_seq ?_
    refine c_region ?_
    refine o_pure (p_assign (v := .int .i64 0) rfl) rfl rfl rfl ?_
    refine o_nil ?_
    refine q_then ?_
    refine c_ret ?_
    have hr0 : (0 : Int) = (Lru.keys l) := by
      first | exact Lru.keys_bad (by omega) hI2 (by assumption) | exact Lru.keys_twice (by omega) hI2 (by assumption) ((hI3 _).1 (by assumption)) | exact Lru.keys_end (by omega) hI2
    refine q_end0 (v := .int .i64 0) (rt1 rfl (r_tmp rfl)) (i := 1) rfl ?_
    exact (by have hcc := congrArg (fun (y0 : Int) => (.int .i64 y0 : Value)) hr0; exact hcc)

set_option maxHeartbeats 8000000 in
set_option maxRecDepth 100000 in
theorem lcheck_ok (c : DCache) (ac_0 : Option Addr) (cc_0 : Nat) : Fn0 Try.prog 82 [.agg #[.int .i64 c.room, .slice ac_0 c.keys.length cc_0]] (fun w => Rd tInt w ac_0 cc_0 c.keys) (.int .i64 (Lru.check c)) := by
  refine fn0 (nt := 18) (F0 := [(0, .agg #[.int .i64 c.room, .slice ac_0 c.keys.length cc_0])]) Try.func82 rfl Try.ntmps82 rfl rfl (fun w0 hpre => ?_)
  have hc_0 := hpre
  have hlhc_0 := hc_0.2.1
  refine c_seq ?_
  refine c_region ?_
  refine o_box (v := .agg #[.int .i64 c.room, .slice ac_0 c.keys.length cc_0]) rfl rfl (fun B1 => ?_)
  refine o_pure (p_assign (v := .int .i64 0) rfl) rfl rfl rfl ?_
  refine o_nil ?_
  refine q_then ?_
  refine c_seq ?_
  refine c_block ?_
  refine c_seq ?_
  refine c_region ?_
  refine o_pure (p_fieldAddr (B := B1) (j := 0) (j' := 0) rfl fo74_0 rfl) rfl rfl rfl ?_
  refine o_pure (p_load (i := 0) (v := .int .i64 c.room) rfl rfl sh3 rfl) rfl rfl rfl ?_
  refine o_call0 (v := .bool (Lru.okRoom c.room)) rfl (room_ok c.room) hf105 (fun _ _ => trivial) rfl ?_
  refine o_pure (p_not (b := (Lru.okRoom c.room)) rfl) rfl rfl rfl ?_
  refine o_pure (p_assign (v := .bool (!(Lru.okRoom c.room))) rfl) rfl rfl rfl ?_
  refine o_nil ?_
  refine q_then ?_
  refine c_cond (b := (!(Lru.okRoom c.room))) rfl (fun hc2 => ?_) (fun hc2 => ?_)
  · simp only [Bool.not_eq_true'] at hc2
    refine c_seq ?_
    refine c_region ?_
    refine o_pure (p_assign (v := .int .i64 3) rfl) rfl rfl rfl ?_
    refine o_nil ?_
    refine q_then ?_
    refine c_ret ?_
    refine q_block_ret (q_then_ret ?_)
    have hr0 : (3 : Int) = (Lru.check c) := by
      first | (rw [Lru.check, if_pos (by assumption)]; done) | (rw [Lru.check, if_neg (by simp_all), if_pos (by assumption)]; done) | (rw [Lru.check, if_neg (by simp_all), if_neg (by omega)]; done)
    refine q_end0 (v := .int .i64 3) (rt1 rfl (r_tmp rfl)) (i := 1) rfl ?_
    exact (by have hcc := congrArg (fun (y0 : Int) => (.int .i64 y0 : Value)) hr0; exact hcc)
  · simp only [Bool.not_eq_false'] at hc2
    refine c_seq ?_
    refine c_region ?_
    refine o_pure (p_fieldAddr (B := B1) (j := 0) (j' := 1) rfl fo74_1 rfl) rfl rfl rfl ?_
    refine o_pure (p_load (i := 0) (v := .slice ac_0 c.keys.length cc_0) rfl rfl sh45 rfl) rfl rfl rfl ?_
    refine o_pure (p_len_slice (len := c.keys.length) rfl rfl Try.underlying45) rfl rfl rfl ?_
    refine o_pure (p_fieldAddr (B := B1) (j := 0) (j' := 0) rfl fo74_0 rfl) rfl rfl rfl ?_
    refine o_pure (p_load (i := 0) (v := .int .i64 c.room) rfl rfl sh3 rfl) rfl rfl rfl ?_
    refine o_pure (p_gt (p := (c.keys.length : Int)) (q := c.room) rfl rfl) rfl rfl rfl ?_
    refine o_pure (p_assign (v := .bool (decide (c.room < (c.keys.length : Int)))) rfl) rfl rfl rfl ?_
    refine o_nil ?_
    refine q_then ?_
    refine c_cond (b := decide (c.room < (c.keys.length : Int))) rfl (fun hc3 => ?_) (fun hc3 => ?_)
    · simp only [decide_eq_true_eq] at hc3
      refine c_seq ?_
      refine c_region ?_
      refine o_pure (p_assign (v := .int .i64 2) rfl) rfl rfl rfl ?_
      refine o_nil ?_
      refine q_then ?_
      refine c_ret ?_
      refine q_block_ret (q_then_ret ?_)
      have hr0 : (2 : Int) = (Lru.check c) := by
        first | (rw [Lru.check, if_pos (by assumption)]; done) | (rw [Lru.check, if_neg (by simp_all), if_pos (by assumption)]; done) | (rw [Lru.check, if_neg (by simp_all), if_neg (by omega)]; done)
      refine q_end0 (v := .int .i64 2) (rt1 rfl (r_tmp rfl)) (i := 1) rfl ?_
      exact (by have hcc := congrArg (fun (y0 : Int) => (.int .i64 y0 : Value)) hr0; exact hcc)
    · simp only [decide_eq_false_iff_not, Int.not_lt] at hc3
      refine c_skip ?_
      refine q_block_normal (q_then ?_)
      refine c_seq ?_
      refine c_region ?_
      refine o_pure (p_fieldAddr (B := B1) (j := 0) (j' := 1) rfl fo74_1 rfl) rfl rfl rfl ?_
      refine o_pure (p_load (i := 0) (v := .slice ac_0 c.keys.length cc_0) rfl rfl sh45 rfl) rfl rfl rfl ?_
      refine o_call0 (v := .int .i64 (Lru.keys c.keys)) rfl (keys_ok c.keys ac_0 cc_0) hf106 (fun w hw => (rd_base (i := 1) rfl hc_0) w hw) rfl ?_
      refine o_pure (p_assign (v := .int .i64 (Lru.keys c.keys)) rfl) rfl rfl rfl ?_
      refine o_nil ?_
      refine q_then ?_
      refine c_ret ?_
      have hr0 : ((Lru.keys c.keys) : Int) = (Lru.check c) := by
        first | (rw [Lru.check, if_pos (by assumption)]; done) | (rw [Lru.check, if_neg (by simp_all), if_pos (by assumption)]; done) | (rw [Lru.check, if_neg (by simp_all), if_neg (by omega)]; done)
      refine q_end0 (v := .int .i64 (Lru.keys c.keys)) (rt1 rfl (r_tmp rfl)) (i := 1) rfl ?_
      exact (by have hcc := congrArg (fun (y0 : Int) => (.int .i64 y0 : Value)) hr0; exact hcc)

set_option maxHeartbeats 8000000 in
set_option maxRecDepth 100000 in
theorem lowned_ok (c : DCache) (ac_0 : Option Addr) (cc_0 : Nat) (hy1 : c.keys.length ≤ 1000000) : FnX Try.prog 83 [.agg #[.int .i64 c.room, .slice ac_0 c.keys.length cc_0]] [] (fun w => SlR tInt (outer w []).S w ac_0 cc_0 c.keys) (Nat × Option Addr × Nat × (Nat → Prop)) (fun p => .pointer (some ⟨p.1, 0, none⟩)) (fun p => [box p.1 [.int .i64 c.room, .slice p.2.1 c.keys.length p.2.2.1] 122, own tInt p.2.2.2 p.2.1 p.2.2.1 c.keys]) := by
  refine fnX (nt := 11) (F0 := [(0, .agg #[.int .i64 c.room, .slice ac_0 c.keys.length cc_0])]) Try.func83 rfl Try.ntmps83 rfl rfl (fun w0 hpre => ?_)
  have hc_0 := hpre
  have hlhc_0 := hc_0.2.1
  refine c_seq ?_
  refine c_region ?_
  refine o_box (v := .agg #[.int .i64 c.room, .slice ac_0 c.keys.length cc_0]) rfl rfl (fun B1 => ?_)
  refine o_pure (p_assign (v := .pointer none) rfl) rfl rfl rfl ?_
  refine o_nil ?_
  refine q_then ?_
  refine c_seq ?_
  refine c_held hmix [box B1 [.int .i64 c.room, .slice ac_0 c.keys.length cc_0] 74, outer w0 []] rfl rfl ?_
  refine h_take (i := 0) (ls := #[true, false, false, false, false, false, false, false, false]) rfl (by kernel_rfl) (by kernel_rfl) (by kernel_rfl) (fun _ _ _ h => h) (p_fieldAddr (B := B1) (j := 0) (j' := 0) rfl fo74_0 rfl) rfl rfl rfl (fun _ hw => HeapIs.drop hw (List.Sublist.refl _)) rfl ?_
  refine h_take (i := 1) (ls := #[true, true, false, false, false, false, false, false, false]) rfl (by kernel_rfl) (by kernel_rfl) (by kernel_rfl) (fun _ _ _ h => h) (p_load (i := 0) (v := .int .i64 c.room) rfl rfl sh3 rfl) rfl rfl rfl (fun _ hw => HeapIs.drop hw (List.Sublist.refl _)) rfl ?_
  refine h_take (i := 2) (ls := #[true, true, true, false, false, false, false, false, false]) rfl (by kernel_rfl) (by kernel_rfl) (by kernel_rfl) (fun _ _ _ h => h) (p_fieldAddr (B := B1) (j := 0) (j' := 1) rfl fo74_1 rfl) rfl rfl rfl (fun _ hw => HeapIs.drop hw (List.Sublist.refl _)) rfl ?_
  refine h_take (i := 3) (ls := #[true, true, true, true, false, false, false, false, false]) rfl (by kernel_rfl) (by kernel_rfl) (by kernel_rfl) (fun _ _ _ h => h) (p_load (i := 0) (v := .slice ac_0 c.keys.length cc_0) rfl rfl sh45 rfl) rfl rfl rfl (fun _ hw => HeapIs.drop hw (List.Sublist.refl _)) rfl ?_
  refine h_one (i := 4) (ls := #[true, true, true, true, true, false, false, false, false]) (by kernel_rfl) rfl rfl ?_
  refine o_callM rfl (clone_Int_ok c.keys ac_0 cc_0 (by first | assumption | omega | (simp only [List.length_append, List.length_take, List.length_drop, List.length_cons, List.length_nil]; omega))) hf107 (fun w hw => (rd_outer (i := 1) rfl hc_0) w hw) rfl (fun _ _ _ _ ha hA => SlO.agree ha hA) ?_
  rintro ⟨a2_4, c2_4⟩ S2_4
  refine o_know (fun w hw => own_len (i := 0) (T := tInt) hw rfl) (fun hlr2_4 => ?_)
  refine o_nil ?_
  refine h_next (fun _ hw => HeapIs.drop hw (List.Sublist.cons _ (List.Sublist.cons_cons _ (List.Sublist.cons_cons _ (List.Sublist.slnil))))) ?_
  refine h_take (i := 5) (ls := #[true, true, true, true, true, true, false, false, false]) rfl (by kernel_rfl) (by kernel_rfl) (by kernel_rfl) (fun _ _ _ h => h) (p_build (cells := [.int .i64 c.room, .slice a2_4 c.keys.length c2_4]) fp74 ze74 rfl rfl) rfl rfl rfl (fun _ hw => HeapIs.drop hw (List.Sublist.cons _ (List.Sublist.cons_cons _ (List.Sublist.cons_cons _ (List.Sublist.slnil))))) rfl ?_
  refine h_take (i := 6) (ls := #[true, true, true, true, true, true, true, false, false]) rfl (by kernel_rfl) (by kernel_rfl) (by kernel_rfl) (fun _ _ _ h => h) (p_build (cells := [.int .i64 c.room, .slice a2_4 c.keys.length c2_4]) fp122 ze122 rfl rfl) rfl rfl rfl (fun _ hw => HeapIs.drop hw (List.Sublist.cons _ (List.Sublist.cons_cons _ (List.Sublist.cons_cons _ (List.Sublist.slnil))))) rfl ?_
  refine h_one (i := 7) (ls := #[true, true, true, true, true, true, true, true, false]) (by kernel_rfl) rfl rfl ?_
  refine o_box (v := .agg #[.int .i64 c.room, .slice a2_4 c.keys.length c2_4]) rfl rfl (fun B2_7 => ?_)
  refine o_nil ?_
  refine h_next (fun _ hw => HeapIs.drop hw (List.Sublist.cons _ (List.Sublist.cons _ (List.Sublist.cons_cons _ (List.Sublist.cons_cons _ (List.Sublist.slnil)))))) ?_
  refine h_take (i := 8) (ls := #[true, true, true, true, true, true, true, true, true]) rfl (by kernel_rfl) (by kernel_rfl) (by kernel_rfl) (fun _ _ _ h => h) (p_assign (v := .pointer (some ⟨B2_7, 0, none⟩)) rfl) rfl rfl rfl (fun _ hw => HeapIs.drop hw (List.Sublist.cons _ (List.Sublist.cons _ (List.Sublist.cons_cons _ (List.Sublist.cons_cons _ (List.Sublist.slnil)))))) rfl ?_
  refine h_done (by kernel_rfl) ?_
  refine q_then ?_
  refine c_ret ?_
  refine q_endX (p := (B2_7, a2_4, c2_4, S2_4)) (rt1 rfl (r_tmp rfl)) ?_ (fun w hw => ?_)
  · exact rfl
  · have h2 := hw.pick (H' := [outer w0 [], box B2_7 [.int .i64 c.room, .slice a2_4 c.keys.length c2_4] 122, own tInt S2_4 a2_4 c2_4 c.keys]) [3, 0, 1] (by decide) rfl
    exact Eq.mp (congrArg (fun z => HeapIs w0 ((outer w0 []) :: z) w) (rfl)) h2

set_option maxHeartbeats 8000000 in
set_option maxRecDepth 100000 in
theorem ltouch_ok (c : DCache) (Bc : Nat) (ac_0 : Option Addr) (cc_0 : Nat) (Sc_0 : Nat → Prop) (key : Int) (hy1 : Lru.Ok c) : FnX Try.prog 84 [.pointer (some ⟨Bc, 0, none⟩), .int .i64 key] [box Bc [.int .i64 c.room, .slice ac_0 c.keys.length cc_0] 122, own tInt Sc_0 ac_0 cc_0 c.keys] (fun _ => True) (Option Addr × Nat × (Nat → Prop)) (fun p => .tuple #[.bool ((Lru.touch c key).2.1), .int .i64 ((Lru.touch c key).2.2)]) (fun p => [box Bc [.int .i64 (((Lru.touch c key).1).room), .slice p.1 (((Lru.touch c key).1).keys).length p.2.1] 122, own tInt p.2.2 p.1 p.2.1 (((Lru.touch c key).1).keys)]) := by
  refine fnX (nt := 88) (F0 := [(0, .pointer (some ⟨Bc, 0, none⟩)), (1, .int .i64 key)]) Try.func84 rfl Try.ntmps84 rfl rfl (fun w0 hpre => ?_)
  refine c_know (fun w hw => own_len (i := 2) (T := tInt) hw rfl) (fun hlown_c_0 => ?_)
  obtain ⟨hcown_c_0, hlown_c_0⟩ := hlown_c_0
  have hroom := hy1.room
  have hlen := hy1.len
  refine c_seq ?_
  refine c_region ?_
  refine o_pure (p_assign (v := .bool false) rfl) rfl rfl rfl ?_
  refine o_pure (p_assign (v := .int .i64 0) rfl) rfl rfl rfl ?_
  refine o_nil ?_
  refine q_then ?_
  refine c_seq ?_
  refine c_region ?_
  refine o_pure (p_move (v := .pointer (some ⟨Bc, 0, none⟩)) rfl) rfl rfl rfl ?_
  refine o_pure (p_nilCheck rfl) rfl rfl rfl ?_
  refine o_pure (p_fieldAddr (B := Bc) (j := 0) (j' := 0) rfl fo122_0 rfl) rfl rfl rfl ?_
  refine o_pure (p_fieldAddr (B := Bc) (j := 0) (j' := 1) rfl fo74_1 rfl) rfl rfl rfl ?_
  refine o_pure (p_load (i := 1) (v := .slice ac_0 c.keys.length cc_0) rfl rfl sh45 rfl) rfl rfl rfl ?_
  refine o_pure (p_move (v := .int .i64 key) rfl) rfl rfl rfl ?_
  refine o_call0 (v := .int .i64 (idxF (fun x : Int => (x == key)) c.keys)) rfl (index_int_ok c.keys ac_0 cc_0 key) hf108 (fun w hw => (rd_own (i := 2) rfl) w hw) rfl ?_
  refine o_pure (p_assign (v := .int .i64 (idxF (fun x : Int => (x == key)) c.keys)) rfl) rfl rfl rfl ?_
  refine o_nil ?_
  refine q_then ?_
  refine c_seq ?_
  refine c_region ?_
  refine o_pure (p_assign (v := .int .i64 (-1)) rfl) rfl rfl rfl ?_
  refine o_nil ?_
  refine q_then ?_
  refine c_seq ?_
  refine c_block ?_
  refine c_seq ?_
  refine c_region ?_
  refine o_pure (p_move (v := .int .i64 (idxF (fun x : Int => (x == key)) c.keys)) rfl) rfl rfl rfl ?_
  refine o_pure (p_ge (p := (idxF (fun x : Int => (x == key)) c.keys)) (q := 0) rfl rfl) rfl rfl rfl ?_
  refine o_pure (p_assign (v := .bool (decide (0 ≤ (idxF (fun x : Int => (x == key)) c.keys)))) rfl) rfl rfl rfl ?_
  refine o_nil ?_
  refine q_then ?_
  refine c_cond (b := decide (0 ≤ (idxF (fun x : Int => (x == key)) c.keys))) rfl (fun hc1 => ?_) (fun hc1 => ?_)
  · simp only [decide_eq_true_eq] at hc1
    have hix := idxF_lt (fun x : Int => (x == key)) c.keys
    refine c_region ?_
    refine o_pure (p_move (v := .pointer (some ⟨Bc, 0, none⟩)) rfl) rfl rfl rfl ?_
    refine o_pure (p_move (v := .pointer (some ⟨Bc, 0, none⟩)) rfl) rfl rfl rfl ?_
    refine o_pure (p_nilCheck rfl) rfl rfl rfl ?_
    refine o_pure (p_fieldAddr (B := Bc) (j := 0) (j' := 0) rfl fo122_0 rfl) rfl rfl rfl ?_
    refine o_pure (p_fieldAddr (B := Bc) (j := 0) (j' := 1) rfl fo74_1 rfl) rfl rfl rfl ?_
    refine o_pure (p_load (i := 1) (v := .slice ac_0 c.keys.length cc_0) rfl rfl sh45 rfl) rfl rfl rfl ?_
    refine o_pure (p_move (v := .int .i64 (idxF (fun x : Int => (x == key)) c.keys)) rfl) rfl rfl rfl ?_
    refine o_pure (p_move (v := .int .i64 (idxF (fun x : Int => (x == key)) c.keys)) rfl) rfl rfl rfl ?_
    refine o_pure (p_addb (p := (idxF (fun x : Int => (x == key)) c.keys)) (q := 1) rfl rfl (by omega)) rfl rfl rfl ?_
    refine o_pick (H' := [own tInt Sc_0 ac_0 cc_0 c.keys, outer w0 [box Bc [.int .i64 c.room, .slice ac_0 c.keys.length cc_0] 122, own tInt Sc_0 ac_0 cc_0 c.keys], box Bc [.int .i64 c.room, .slice ac_0 c.keys.length cc_0] 122]) [2, 0, 1] (by decide) rfl ?_
    refine o_callX (pre := [own tInt Sc_0 ac_0 cc_0 c.keys]) (R := [outer w0 [box Bc [.int .i64 c.room, .slice ac_0 c.keys.length cc_0] 122, own tInt Sc_0 ac_0 cc_0 c.keys], box Bc [.int .i64 c.room, .slice ac_0 c.keys.length cc_0] 122]) rfl (delete_Int_ok c.keys ac_0 cc_0 Sc_0 (idxF (fun x : Int => (x == key)) c.keys) ((idxF (fun x : Int => (x == key)) c.keys) + 1) (by omega)) hf109 rfl (fun _ _ => trivial) rfl ?_
    rintro ⟨a2, c3, S4⟩
    refine o_asH (H' := [own tInt S4 a2 c3 (c.keys.take (idxF (fun x : Int => (x == key)) c.keys).toNat ++ c.keys.drop ((idxF (fun x : Int => (x == key)) c.keys) + 1).toNat), outer w0 [box Bc [.int .i64 c.room, .slice ac_0 c.keys.length cc_0] 122, own tInt Sc_0 ac_0 cc_0 c.keys], box Bc [.int .i64 c.room, .slice ac_0 c.keys.length cc_0] 122]) rfl ?_
    refine o_pure (p_nilCheck rfl) rfl rfl rfl ?_
    refine o_pure (p_fieldAddr (B := Bc) (j := 0) (j' := 0) rfl fo122_0 rfl) rfl rfl rfl ?_
    refine o_pure (p_fieldAddr (B := Bc) (j := 0) (j' := 1) rfl fo74_1 rfl) rfl rfl rfl ?_
    refine o_store (i := 2) (v := .slice a2 (c.keys.take (idxF (fun x : Int => (x == key)) c.keys).toNat ++ c.keys.drop ((idxF (fun x : Int => (x == key)) c.keys) + 1).toNat).length c3) (cs' := [.int .i64 c.room, .slice a2 (c.keys.take (idxF (fun x : Int => (x == key)) c.keys).toNat ++ c.keys.drop ((idxF (fun x : Int => (x == key)) c.keys) + 1).toNat).length c3]) rfl rfl rfl sz45 rfl rfl rfl ?_
    refine o_nil ?_
    refine q_block_normal (q_then ?_)
    refine c_seq ?_
    refine c_region ?_
    refine o_pure (p_move (v := .pointer (some ⟨Bc, 0, none⟩)) rfl) rfl rfl rfl ?_
    refine o_pure (p_move (v := .pointer (some ⟨Bc, 0, none⟩)) rfl) rfl rfl rfl ?_
    refine o_pure (p_nilCheck rfl) rfl rfl rfl ?_
    refine o_pure (p_fieldAddr (B := Bc) (j := 0) (j' := 0) rfl fo122_0 rfl) rfl rfl rfl ?_
    refine o_pure (p_fieldAddr (B := Bc) (j := 0) (j' := 1) rfl fo74_1 rfl) rfl rfl rfl ?_
    refine o_pure (p_load (i := 2) (v := .slice a2 (c.keys.take (idxF (fun x : Int => (x == key)) c.keys).toNat ++ c.keys.drop ((idxF (fun x : Int => (x == key)) c.keys) + 1).toNat).length c3) rfl rfl sh45 rfl) rfl rfl rfl ?_
    refine o_pure (p_move (v := .int .i64 key) rfl) rfl rfl rfl ?_
    refine o_buildSlice (m := 1) (T := tInt) (L := [key]) (vs := [.int .i64 key]) rfl rfl rfl rfl Try.underlying45 sz3 (by decide) ze3 rfl (by decide) rfl (fun S6 a7 => ?_)
    refine o_pick (H' := [own tInt S4 a2 c3 (c.keys.take (idxF (fun x : Int => (x == key)) c.keys).toNat ++ c.keys.drop ((idxF (fun x : Int => (x == key)) c.keys) + 1).toNat), own tInt S6 a7 ([key].length) ([key]), outer w0 [box Bc [.int .i64 c.room, .slice ac_0 c.keys.length cc_0] 122, own tInt Sc_0 ac_0 cc_0 c.keys], box Bc [.int .i64 c.room, .slice a2 (c.keys.take (idxF (fun x : Int => (x == key)) c.keys).toNat ++ c.keys.drop ((idxF (fun x : Int => (x == key)) c.keys) + 1).toNat).length c3] 122]) [1, 0, 2, 3] (by decide) rfl ?_
    refine o_callX (pre := [own tInt S4 a2 c3 (c.keys.take (idxF (fun x : Int => (x == key)) c.keys).toNat ++ c.keys.drop ((idxF (fun x : Int => (x == key)) c.keys) + 1).toNat), own tInt S6 a7 ([key].length) ([key])]) (R := [outer w0 [box Bc [.int .i64 c.room, .slice ac_0 c.keys.length cc_0] 122, own tInt Sc_0 ac_0 cc_0 c.keys], box Bc [.int .i64 c.room, .slice a2 (c.keys.take (idxF (fun x : Int => (x == key)) c.keys).toNat ++ c.keys.drop ((idxF (fun x : Int => (x == key)) c.keys) + 1).toNat).length c3] 122]) rfl (insert_Int_ok (c.keys.take (idxF (fun x : Int => (x == key)) c.keys).toNat ++ c.keys.drop ((idxF (fun x : Int => (x == key)) c.keys) + 1).toNat) a2 c3 S4 (0 : Int) ([key]) a7 ([key].length) S6 (by (try simp only [List.length_cons, List.length_nil, List.length_append, List.length_take, List.length_drop, and_true]); omega)) hf110 rfl (fun _ _ => trivial) rfl ?_
    rintro ⟨a9, c10, S11⟩
    refine o_asH (H' := [own tInt S11 a9 c10 ((c.keys.take (idxF (fun x : Int => (x == key)) c.keys).toNat ++ c.keys.drop ((idxF (fun x : Int => (x == key)) c.keys) + 1).toNat).take (0 : Int).toNat ++ ([key]) ++ (c.keys.take (idxF (fun x : Int => (x == key)) c.keys).toNat ++ c.keys.drop ((idxF (fun x : Int => (x == key)) c.keys) + 1).toNat).drop (0 : Int).toNat), outer w0 [box Bc [.int .i64 c.room, .slice ac_0 c.keys.length cc_0] 122, own tInt Sc_0 ac_0 cc_0 c.keys], box Bc [.int .i64 c.room, .slice a2 (c.keys.take (idxF (fun x : Int => (x == key)) c.keys).toNat ++ c.keys.drop ((idxF (fun x : Int => (x == key)) c.keys) + 1).toNat).length c3] 122]) rfl ?_
    refine o_pure (p_nilCheck rfl) rfl rfl rfl ?_
    refine o_pure (p_fieldAddr (B := Bc) (j := 0) (j' := 0) rfl fo122_0 rfl) rfl rfl rfl ?_
    refine o_pure (p_fieldAddr (B := Bc) (j := 0) (j' := 1) rfl fo74_1 rfl) rfl rfl rfl ?_
    refine o_store (i := 2) (v := .slice a9 ((c.keys.take (idxF (fun x : Int => (x == key)) c.keys).toNat ++ c.keys.drop ((idxF (fun x : Int => (x == key)) c.keys) + 1).toNat).take (0 : Int).toNat ++ ([key]) ++ (c.keys.take (idxF (fun x : Int => (x == key)) c.keys).toNat ++ c.keys.drop ((idxF (fun x : Int => (x == key)) c.keys) + 1).toNat).drop (0 : Int).toNat).length c10) (cs' := [.int .i64 c.room, .slice a9 ((c.keys.take (idxF (fun x : Int => (x == key)) c.keys).toNat ++ c.keys.drop ((idxF (fun x : Int => (x == key)) c.keys) + 1).toNat).take (0 : Int).toNat ++ ([key]) ++ (c.keys.take (idxF (fun x : Int => (x == key)) c.keys).toNat ++ c.keys.drop ((idxF (fun x : Int => (x == key)) c.keys) + 1).toNat).drop (0 : Int).toNat).length c10]) rfl rfl rfl sz45 rfl rfl rfl ?_
    refine o_nil ?_
    refine q_then ?_
    refine c_seq ?_
    refine c_region ?_
    refine o_pure (p_move (v := .int .i64 (idxF (fun x : Int => (x == key)) c.keys)) rfl) rfl rfl rfl ?_
    refine o_pure (p_ge (p := (idxF (fun x : Int => (x == key)) c.keys)) (q := 0) rfl rfl) rfl rfl rfl ?_
    refine o_pure (p_move (v := .int .i64 (-1)) rfl) rfl rfl rfl ?_
    refine o_pure (p_assign (v := .bool (decide (0 ≤ (idxF (fun x : Int => (x == key)) c.keys)))) rfl) rfl rfl rfl ?_
    refine o_pure (p_assign (v := .int .i64 (-1)) rfl) rfl rfl rfl ?_
    refine o_nil ?_
    refine q_then ?_
    refine c_ret ?_
    first
      | have ht := Lru.touch_hit (c := c) (key := key) hy1 (by assumption)
      | have ht := Lru.touch_full (c := c) (key := key) hy1 (by assumption) (by assumption) (by omega)
      | have ht := Lru.touch_add (c := c) (key := key) hy1 (by assumption) (by assumption)
    have hr0 : (c.room : Int) = ((Lru.touch c key).1).room := by
      first | (rw [ht]; done) | (rw [ht]; rfl) | (rw [ht]; exact (Lru.ins0 _ _).trans (by rw [Lru.nat1 (by omega)])) | (rw [ht]; exact decide_eq_true (by omega)) | (rw [ht]; exact decide_eq_false (by omega))
    have hr1 : (((c.keys.take (idxF (fun x : Int => (x == key)) c.keys).toNat ++ c.keys.drop ((idxF (fun x : Int => (x == key)) c.keys) + 1).toNat).take (0 : Int).toNat ++ ([key]) ++ (c.keys.take (idxF (fun x : Int => (x == key)) c.keys).toNat ++ c.keys.drop ((idxF (fun x : Int => (x == key)) c.keys) + 1).toNat).drop (0 : Int).toNat) : List Int) = ((Lru.touch c key).1).keys := by
      first | (rw [ht]; done) | (rw [ht]; rfl) | (rw [ht]; exact (Lru.ins0 _ _).trans (by rw [Lru.nat1 (by omega)])) | (rw [ht]; exact decide_eq_true (by omega)) | (rw [ht]; exact decide_eq_false (by omega))
    have hr2 : (decide (0 ≤ (idxF (fun x : Int => (x == key)) c.keys)) : Bool) = ((Lru.touch c key).2.1) := by
      first | (rw [ht]; done) | (rw [ht]; rfl) | (rw [ht]; exact (Lru.ins0 _ _).trans (by rw [Lru.nat1 (by omega)])) | (rw [ht]; exact decide_eq_true (by omega)) | (rw [ht]; exact decide_eq_false (by omega))
    have hr3 : ((-1) : Int) = ((Lru.touch c key).2.2) := by
      first | (rw [ht]; done) | (rw [ht]; rfl) | (rw [ht]; exact (Lru.ins0 _ _).trans (by rw [Lru.nat1 (by omega)])) | (rw [ht]; exact decide_eq_true (by omega)) | (rw [ht]; exact decide_eq_false (by omega))
    refine q_endX (p := (a9, c10, S11)) (rt2 rfl (r_tmp rfl) (r_tmp rfl)) ?_ (fun w hw => ?_)
    · exact (by have hcc := congr (congr (congr (congrArg (fun (y0 : Int) (y1 : List Int) (y2 : Bool) (y3 : Int) => (.tuple #[.bool y2, .int .i64 y3] : Value)) hr0) hr1) hr2) hr3; exact hcc)
    · have h2 := hw.pick (H' := [outer w0 [box Bc [.int .i64 c.room, .slice ac_0 c.keys.length cc_0] 122, own tInt Sc_0 ac_0 cc_0 c.keys], box Bc [.int .i64 c.room, .slice a9 ((c.keys.take (idxF (fun x : Int => (x == key)) c.keys).toNat ++ c.keys.drop ((idxF (fun x : Int => (x == key)) c.keys) + 1).toNat).take (0 : Int).toNat ++ ([key]) ++ (c.keys.take (idxF (fun x : Int => (x == key)) c.keys).toNat ++ c.keys.drop ((idxF (fun x : Int => (x == key)) c.keys) + 1).toNat).drop (0 : Int).toNat).length c10] 122, own tInt S11 a9 c10 ((c.keys.take (idxF (fun x : Int => (x == key)) c.keys).toNat ++ c.keys.drop ((idxF (fun x : Int => (x == key)) c.keys) + 1).toNat).take (0 : Int).toNat ++ ([key]) ++ (c.keys.take (idxF (fun x : Int => (x == key)) c.keys).toNat ++ c.keys.drop ((idxF (fun x : Int => (x == key)) c.keys) + 1).toNat).drop (0 : Int).toNat)]) [1, 2, 0] (by decide) rfl
      exact Eq.mp (congrArg (fun z => HeapIs w0 ((outer w0 [box Bc [.int .i64 c.room, .slice ac_0 c.keys.length cc_0] 122, own tInt Sc_0 ac_0 cc_0 c.keys]) :: z) w) ((by have hcc := congr (congr (congr (congrArg (fun (y0 : Int) (y1 : List Int) (y2 : Bool) (y3 : Int) => ([box Bc [.int .i64 y0, .slice a9 y1.length c10] 122, own tInt S11 a9 c10 y1] : List Ent)) hr0) hr1) hr2) hr3; exact hcc))) h2
  · simp only [decide_eq_false_iff_not, Int.not_le] at hc1
    have hix := idxF_lt (fun x : Int => (x == key)) c.keys
    refine c_seq ?_
    refine c_draw hmix (by kernel_rfl) ?_
    refine w_pure (p_move (v := .pointer (some ⟨Bc, 0, none⟩)) rfl) rfl rfl rfl ?_
    refine w_pure (p_nilCheck rfl) rfl rfl rfl ?_
    refine w_pure (p_fieldAddr (B := Bc) (j := 0) (j' := 0) rfl fo122_0 rfl) rfl rfl rfl ?_
    refine w_pure (p_fieldAddr (B := Bc) (j := 0) (j' := 1) rfl fo74_1 rfl) rfl rfl rfl ?_
    refine w_pure (p_load (i := 1) (v := .slice ac_0 c.keys.length cc_0) rfl rfl sh45 rfl) rfl rfl rfl ?_
    refine w_pure (p_len_slice (len := c.keys.length) rfl rfl Try.underlying45) rfl rfl rfl ?_
    refine w_pure (p_move (v := .pointer (some ⟨Bc, 0, none⟩)) rfl) rfl rfl rfl ?_
    refine w_pure (p_nilCheck rfl) rfl rfl rfl ?_
    refine w_pure (p_fieldAddr (B := Bc) (j := 0) (j' := 0) rfl fo122_0 rfl) rfl rfl rfl ?_
    refine w_pure (p_fieldAddr (B := Bc) (j := 0) (j' := 0) rfl fo74_0 rfl) rfl rfl rfl ?_
    refine w_pure (p_load (i := 1) (v := .int .i64 c.room) rfl rfl sh3 rfl) rfl rfl rfl ?_
    refine w_pure (p_eq (p := (c.keys.length : Int)) (q := c.room) rfl rfl) rfl rfl rfl ?_
    refine w_pure (p_assign (v := .bool ((c.keys.length : Int) == c.room)) rfl) rfl rfl rfl ?_
    refine w_nil ?_
    refine q_then ?_
    refine c_cond (b := ((c.keys.length : Int) == c.room)) rfl (fun hc13 => ?_) (fun hc13 => ?_)
    · simp only [beq_iff_eq] at hc13
      refine c_seq ?_
      refine c_draw hmix (by kernel_rfl) ?_
      refine w_pure (p_move (v := .pointer (some ⟨Bc, 0, none⟩)) rfl) rfl rfl rfl ?_
      refine w_pure (p_nilCheck rfl) rfl rfl rfl ?_
      refine w_pure (p_fieldAddr (B := Bc) (j := 0) (j' := 0) rfl fo122_0 rfl) rfl rfl rfl ?_
      refine w_pure (p_fieldAddr (B := Bc) (j := 0) (j' := 1) rfl fo74_1 rfl) rfl rfl rfl ?_
      refine w_pure (p_load (i := 1) (v := .slice ac_0 c.keys.length cc_0) rfl rfl sh45 rfl) rfl rfl rfl ?_
      refine w_pure (p_move (v := .pointer (some ⟨Bc, 0, none⟩)) rfl) rfl rfl rfl ?_
      refine w_pure (p_nilCheck rfl) rfl rfl rfl ?_
      refine w_pure (p_fieldAddr (B := Bc) (j := 0) (j' := 0) rfl fo122_0 rfl) rfl rfl rfl ?_
      refine w_pure (p_fieldAddr (B := Bc) (j := 0) (j' := 0) rfl fo74_0 rfl) rfl rfl rfl ?_
      refine w_pure (p_load (i := 1) (v := .int .i64 c.room) rfl rfl sh3 rfl) rfl rfl rfl ?_
      refine w_pure (p_subb (p := c.room) (q := 1) rfl rfl (by omega)) rfl rfl rfl ?_
      refine w_pure (p_indexAddr (L := c.keys) (T := tInt) (i := (c.room - 1)) rfl rfl (rd_own (i := 2) rfl) Try.underlying45 sz3 (by omega) (by omega)) rfl rfl rfl ?_
      refine w_pure (p_loadE1 (i := (c.room - 1).toNat) (T := tInt) (L := c.keys) (v := .int .i64 (c.keys[(c.room - 1).toNat])) rfl (rd_own (i := 2) rfl) (by first | assumption | omega) sh3 rfl) rfl rfl rfl ?_
      refine w_pure (p_assign (v := .int .i64 (c.keys[(c.room - 1).toNat])) rfl) rfl rfl rfl ?_
      refine w_nil ?_
      refine q_then ?_
      refine c_cut (G := Unit) (fun _ => [(0, .pointer (some ⟨Bc, 0, none⟩)), (1, .int .i64 key), (6, .int .i64 (idxF (fun x : Int => (x == key)) c.keys)), (7, .int .i64 (c.keys[(c.room - 1).toNat]))]) (fun _ => [outer w0 [box Bc [.int .i64 c.room, .slice ac_0 c.keys.length cc_0] 122, own tInt Sc_0 ac_0 cc_0 c.keys], box Bc [.int .i64 c.room, .slice ac_0 (c.keys.take ((c.room - 1).toNat)).length cc_0] 122, own tInt Sc_0 ac_0 cc_0 (c.keys.take ((c.room - 1).toNat))]) (fun K hK15 => ?_) ?_
      · refine c_held hmix [outer w0 [box Bc [.int .i64 c.room, .slice ac_0 c.keys.length cc_0] 122, own tInt Sc_0 ac_0 cc_0 c.keys]] rfl rfl ?_
        refine h_take (i := 0) (ls := #[true, false, false, false, false, false, false, false, false, false, false, false, false, false, false, false, false]) rfl (by kernel_rfl) (by kernel_rfl) (by kernel_rfl) (fun _ _ _ h => h) (p_move (v := .pointer (some ⟨Bc, 0, none⟩)) rfl) rfl rfl rfl (fun _ hw => HeapIs.drop hw (List.Sublist.cons_cons _ (List.Sublist.cons _ (List.Sublist.cons _ (List.Sublist.slnil))))) rfl ?_
        refine h_take (i := 1) (ls := #[true, true, false, false, false, false, false, false, false, false, false, false, false, false, false, false, false]) rfl (by kernel_rfl) (by kernel_rfl) (by kernel_rfl) (fun _ _ _ h => h) (p_move (v := .pointer (some ⟨Bc, 0, none⟩)) rfl) rfl rfl rfl (fun _ hw => HeapIs.drop hw (List.Sublist.cons_cons _ (List.Sublist.cons _ (List.Sublist.cons _ (List.Sublist.slnil))))) rfl ?_
        refine h_take (i := 2) (ls := #[true, true, true, false, false, false, false, false, false, false, false, false, false, false, false, false, false]) rfl (by kernel_rfl) (by kernel_rfl) (by kernel_rfl) (fun _ _ _ h => h) (p_nilCheck rfl) rfl rfl rfl (fun _ hw => HeapIs.drop hw (List.Sublist.cons_cons _ (List.Sublist.cons _ (List.Sublist.cons _ (List.Sublist.slnil))))) rfl ?_
        refine h_take (i := 3) (ls := #[true, true, true, true, false, false, false, false, false, false, false, false, false, false, false, false, false]) rfl (by kernel_rfl) (by kernel_rfl) (by kernel_rfl) (fun _ _ _ h => h) (p_fieldAddr (B := Bc) (j := 0) (j' := 0) rfl fo122_0 rfl) rfl rfl rfl (fun _ hw => HeapIs.drop hw (List.Sublist.cons_cons _ (List.Sublist.cons _ (List.Sublist.cons _ (List.Sublist.slnil))))) rfl ?_
        refine h_take (i := 4) (ls := #[true, true, true, true, true, false, false, false, false, false, false, false, false, false, false, false, false]) rfl (by kernel_rfl) (by kernel_rfl) (by kernel_rfl) (fun _ _ _ h => h) (p_fieldAddr (B := Bc) (j := 0) (j' := 1) rfl fo74_1 rfl) rfl rfl rfl (fun _ hw => HeapIs.drop hw (List.Sublist.cons_cons _ (List.Sublist.cons _ (List.Sublist.cons _ (List.Sublist.slnil))))) rfl ?_
        refine h_take (i := 6) (ls := #[true, true, true, true, true, false, true, false, false, false, false, false, false, false, false, false, false]) rfl (by kernel_rfl) (by kernel_rfl) (by kernel_rfl) (fun _ _ _ h => h) (p_move (v := .pointer (some ⟨Bc, 0, none⟩)) rfl) rfl rfl rfl (fun _ hw => HeapIs.drop hw (List.Sublist.cons_cons _ (List.Sublist.cons _ (List.Sublist.cons _ (List.Sublist.slnil))))) rfl ?_
        refine h_take (i := 7) (ls := #[true, true, true, true, true, false, true, true, false, false, false, false, false, false, false, false, false]) rfl (by kernel_rfl) (by kernel_rfl) (by kernel_rfl) (fun _ _ _ h => h) (p_nilCheck rfl) rfl rfl rfl (fun _ hw => HeapIs.drop hw (List.Sublist.cons_cons _ (List.Sublist.cons _ (List.Sublist.cons _ (List.Sublist.slnil))))) rfl ?_
        refine h_take (i := 8) (ls := #[true, true, true, true, true, false, true, true, true, false, false, false, false, false, false, false, false]) rfl (by kernel_rfl) (by kernel_rfl) (by kernel_rfl) (fun _ _ _ h => h) (p_fieldAddr (B := Bc) (j := 0) (j' := 0) rfl fo122_0 rfl) rfl rfl rfl (fun _ hw => HeapIs.drop hw (List.Sublist.cons_cons _ (List.Sublist.cons _ (List.Sublist.cons _ (List.Sublist.slnil))))) rfl ?_
        refine h_take (i := 9) (ls := #[true, true, true, true, true, false, true, true, true, true, false, false, false, false, false, false, false]) rfl (by kernel_rfl) (by kernel_rfl) (by kernel_rfl) (fun _ _ _ h => h) (p_fieldAddr (B := Bc) (j := 0) (j' := 0) rfl fo74_0 rfl) rfl rfl rfl (fun _ hw => HeapIs.drop hw (List.Sublist.cons_cons _ (List.Sublist.cons _ (List.Sublist.cons _ (List.Sublist.slnil))))) rfl ?_
        refine h_two (i := 5) (j := 10) (ls := #[true, true, true, true, true, true, true, true, true, true, false, false, false, false, false, false, false]) (ls' := #[true, true, true, true, true, false, true, true, true, true, true, false, false, false, false, false, false]) (by kernel_rfl) rfl rfl rfl rfl ?_ ?_
        · refine o_pure (p_load (i := 1) (v := .slice ac_0 c.keys.length cc_0) rfl rfl sh45 rfl) rfl rfl rfl ?_
          refine o_nil ?_
          refine h_next (fun _ hw => HeapIs.drop hw (List.Sublist.cons_cons _ (List.Sublist.cons _ (List.Sublist.cons _ (List.Sublist.slnil))))) ?_
          refine h_one (i := 10) (ls := #[true, true, true, true, true, true, true, true, true, true, true, false, false, false, false, false, false]) (by kernel_rfl) rfl rfl ?_
          refine o_pure (p_load (i := 1) (v := .int .i64 c.room) rfl rfl sh3 rfl) rfl rfl rfl ?_
          refine o_nil ?_
          refine h_next (fun _ hw => HeapIs.drop hw (List.Sublist.cons_cons _ (List.Sublist.cons _ (List.Sublist.cons _ (List.Sublist.slnil))))) ?_
          refine h_take (i := 11) (ls := #[true, true, true, true, true, true, true, true, true, true, true, true, false, false, false, false, false]) rfl (by kernel_rfl) (by kernel_rfl) (by kernel_rfl) (fun _ _ _ h => h) (p_subb (p := c.room) (q := 1) rfl rfl (by omega)) rfl rfl rfl (fun _ hw => HeapIs.drop hw (List.Sublist.cons_cons _ (List.Sublist.cons _ (List.Sublist.cons _ (List.Sublist.slnil))))) rfl ?_
          refine h_one (i := 12) (ls := #[true, true, true, true, true, true, true, true, true, true, true, true, true, false, false, false, false]) (by kernel_rfl) rfl rfl ?_
          refine o_pure (p_sliceH (L := c.keys) (T := tInt) (h := (c.room - 1)) rfl rfl Try.underlying45 sz3 (by omega) (by omega) (rd_own (i := 2) rfl)) rfl rfl rfl ?_
          refine o_nil ?_
          refine h_next (fun _ hw => HeapIs.drop hw (List.Sublist.cons_cons _ (List.Sublist.cons _ (List.Sublist.cons _ (List.Sublist.slnil))))) ?_
          refine h_take (i := 13) (ls := #[true, true, true, true, true, true, true, true, true, true, true, true, true, true, false, false, false]) rfl (by kernel_rfl) (by kernel_rfl) (by kernel_rfl) (fun _ _ _ h => h) (p_nilCheck rfl) rfl rfl rfl (fun _ hw => HeapIs.drop hw (List.Sublist.cons_cons _ (List.Sublist.cons _ (List.Sublist.cons _ (List.Sublist.slnil))))) rfl ?_
          refine h_take (i := 14) (ls := #[true, true, true, true, true, true, true, true, true, true, true, true, true, true, true, false, false]) rfl (by kernel_rfl) (by kernel_rfl) (by kernel_rfl) (fun _ _ _ h => h) (p_fieldAddr (B := Bc) (j := 0) (j' := 0) rfl fo122_0 rfl) rfl rfl rfl (fun _ hw => HeapIs.drop hw (List.Sublist.cons_cons _ (List.Sublist.cons _ (List.Sublist.cons _ (List.Sublist.slnil))))) rfl ?_
          refine h_take (i := 15) (ls := #[true, true, true, true, true, true, true, true, true, true, true, true, true, true, true, true, false]) rfl (by kernel_rfl) (by kernel_rfl) (by kernel_rfl) (fun _ _ _ h => h) (p_fieldAddr (B := Bc) (j := 0) (j' := 1) rfl fo74_1 rfl) rfl rfl rfl (fun _ hw => HeapIs.drop hw (List.Sublist.cons_cons _ (List.Sublist.cons _ (List.Sublist.cons _ (List.Sublist.slnil))))) rfl ?_
          refine h_one (i := 16) (ls := #[true, true, true, true, true, true, true, true, true, true, true, true, true, true, true, true, true]) (by kernel_rfl) rfl rfl ?_
          refine o_shrinkC (i := 2) (hi := (c.room - 1).toNat) (T := tInt) rfl (by omega) ?_
          refine o_store (i := 1) (v := .slice ac_0 (c.keys.take ((c.room - 1).toNat)).length cc_0) (cs' := [.int .i64 c.room, .slice ac_0 (c.keys.take ((c.room - 1).toNat)).length cc_0]) rfl rfl rfl sz45 rfl rfl rfl ?_
          refine o_nil ?_
          refine h_next (fun _ hw => HeapIs.drop hw (List.Sublist.cons_cons _ (List.Sublist.cons _ (List.Sublist.cons _ (List.Sublist.slnil))))) ?_
          refine h_done (by kernel_rfl) ?_
          refine q_kont hK15 () (Sub.cons rfl (Sub.cons rfl (Sub.cons rfl (Sub.cons rfl (Sub.nil _))))) (fun _ hw => HeapIs.pick hw [0, 1, 2] (by decide) rfl)
        · refine o_pure (p_load (i := 1) (v := .int .i64 c.room) rfl rfl sh3 rfl) rfl rfl rfl ?_
          refine o_nil ?_
          refine h_next (fun _ hw => HeapIs.drop hw (List.Sublist.cons_cons _ (List.Sublist.cons _ (List.Sublist.cons _ (List.Sublist.slnil))))) ?_
          refine h_take (i := 11) (ls := #[true, true, true, true, true, false, true, true, true, true, true, true, false, false, false, false, false]) rfl (by kernel_rfl) (by kernel_rfl) (by kernel_rfl) (fun _ _ _ h => h) (p_subb (p := c.room) (q := 1) rfl rfl (by omega)) rfl rfl rfl (fun _ hw => HeapIs.drop hw (List.Sublist.cons_cons _ (List.Sublist.cons _ (List.Sublist.cons _ (List.Sublist.slnil))))) rfl ?_
          refine h_one (i := 5) (ls := #[true, true, true, true, true, true, true, true, true, true, true, true, false, false, false, false, false]) (by kernel_rfl) rfl rfl ?_
          refine o_pure (p_load (i := 1) (v := .slice ac_0 c.keys.length cc_0) rfl rfl sh45 rfl) rfl rfl rfl ?_
          refine o_nil ?_
          refine h_next (fun _ hw => HeapIs.drop hw (List.Sublist.cons_cons _ (List.Sublist.cons _ (List.Sublist.cons _ (List.Sublist.slnil))))) ?_
          refine h_one (i := 12) (ls := #[true, true, true, true, true, true, true, true, true, true, true, true, true, false, false, false, false]) (by kernel_rfl) rfl rfl ?_
          refine o_pure (p_sliceH (L := c.keys) (T := tInt) (h := (c.room - 1)) rfl rfl Try.underlying45 sz3 (by omega) (by omega) (rd_own (i := 2) rfl)) rfl rfl rfl ?_
          refine o_nil ?_
          refine h_next (fun _ hw => HeapIs.drop hw (List.Sublist.cons_cons _ (List.Sublist.cons _ (List.Sublist.cons _ (List.Sublist.slnil))))) ?_
          refine h_take (i := 13) (ls := #[true, true, true, true, true, true, true, true, true, true, true, true, true, true, false, false, false]) rfl (by kernel_rfl) (by kernel_rfl) (by kernel_rfl) (fun _ _ _ h => h) (p_nilCheck rfl) rfl rfl rfl (fun _ hw => HeapIs.drop hw (List.Sublist.cons_cons _ (List.Sublist.cons _ (List.Sublist.cons _ (List.Sublist.slnil))))) rfl ?_
          refine h_take (i := 14) (ls := #[true, true, true, true, true, true, true, true, true, true, true, true, true, true, true, false, false]) rfl (by kernel_rfl) (by kernel_rfl) (by kernel_rfl) (fun _ _ _ h => h) (p_fieldAddr (B := Bc) (j := 0) (j' := 0) rfl fo122_0 rfl) rfl rfl rfl (fun _ hw => HeapIs.drop hw (List.Sublist.cons_cons _ (List.Sublist.cons _ (List.Sublist.cons _ (List.Sublist.slnil))))) rfl ?_
          refine h_take (i := 15) (ls := #[true, true, true, true, true, true, true, true, true, true, true, true, true, true, true, true, false]) rfl (by kernel_rfl) (by kernel_rfl) (by kernel_rfl) (fun _ _ _ h => h) (p_fieldAddr (B := Bc) (j := 0) (j' := 1) rfl fo74_1 rfl) rfl rfl rfl (fun _ hw => HeapIs.drop hw (List.Sublist.cons_cons _ (List.Sublist.cons _ (List.Sublist.cons _ (List.Sublist.slnil))))) rfl ?_
          refine h_one (i := 16) (ls := #[true, true, true, true, true, true, true, true, true, true, true, true, true, true, true, true, true]) (by kernel_rfl) rfl rfl ?_
          refine o_shrinkC (i := 2) (hi := (c.room - 1).toNat) (T := tInt) rfl (by omega) ?_
          refine o_store (i := 1) (v := .slice ac_0 (c.keys.take ((c.room - 1).toNat)).length cc_0) (cs' := [.int .i64 c.room, .slice ac_0 (c.keys.take ((c.room - 1).toNat)).length cc_0]) rfl rfl rfl sz45 rfl rfl rfl ?_
          refine o_nil ?_
          refine h_next (fun _ hw => HeapIs.drop hw (List.Sublist.cons_cons _ (List.Sublist.cons _ (List.Sublist.cons _ (List.Sublist.slnil))))) ?_
          refine h_done (by kernel_rfl) ?_
          refine q_kont hK15 () (Sub.cons rfl (Sub.cons rfl (Sub.cons rfl (Sub.cons rfl (Sub.nil _))))) (fun _ hw => HeapIs.pick hw [0, 1, 2] (by decide) rfl)
      rintro _
      show SQ _ 88 w0 _ _ [(0, .pointer (some ⟨Bc, 0, none⟩)), (1, .int .i64 key), (6, .int .i64 (idxF (fun x : Int => (x == key)) c.keys)), (7, .int .i64 (c.keys[(c.room - 1).toNat]))] [outer w0 [box Bc [.int .i64 c.room, .slice ac_0 c.keys.length cc_0] 122, own tInt Sc_0 ac_0 cc_0 c.keys], box Bc [.int .i64 c.room, .slice ac_0 (c.keys.take ((c.room - 1).toNat)).length cc_0] 122, own tInt Sc_0 ac_0 cc_0 (c.keys.take ((c.room - 1).toNat))]
      refine q_cast (F' := [(0, .pointer (some ⟨Bc, 0, none⟩)), (1, .int .i64 key), (6, .int .i64 (idxF (fun x : Int => (x == key)) c.keys)), (7, .int .i64 (c.keys[(c.room - 1).toNat]))]) (H := [outer w0 [box Bc [.int .i64 c.room, .slice ac_0 c.keys.length cc_0] 122, own tInt Sc_0 ac_0 cc_0 c.keys], box Bc [.int .i64 c.room, .slice ac_0 (c.keys.take ((c.room - 1).toNat)).length cc_0] 122, own tInt Sc_0 ac_0 cc_0 (c.keys.take ((c.room - 1).toNat))]) (H' := [outer w0 [box Bc [.int .i64 c.room, .slice ac_0 c.keys.length cc_0] 122, own tInt Sc_0 ac_0 cc_0 c.keys], box Bc [.int .i64 c.room, .slice ac_0 (c.keys.take ((c.room - 1).toNat)).length cc_0] 122, own tInt Sc_0 ac_0 cc_0 (c.keys.take ((c.room - 1).toNat))]) (Sub.cons rfl (Sub.cons rfl (Sub.cons rfl (Sub.cons rfl (Sub.nil _))))) (by rfl) ?_
      refine q_block_normal (q_then ?_)
      refine c_seq ?_
      refine c_region ?_
      refine o_pure (p_move (v := .pointer (some ⟨Bc, 0, none⟩)) rfl) rfl rfl rfl ?_
      refine o_pure (p_move (v := .pointer (some ⟨Bc, 0, none⟩)) rfl) rfl rfl rfl ?_
      refine o_pure (p_nilCheck rfl) rfl rfl rfl ?_
      refine o_pure (p_fieldAddr (B := Bc) (j := 0) (j' := 0) rfl fo122_0 rfl) rfl rfl rfl ?_
      refine o_pure (p_fieldAddr (B := Bc) (j := 0) (j' := 1) rfl fo74_1 rfl) rfl rfl rfl ?_
      refine o_pure (p_load (i := 1) (v := .slice ac_0 (c.keys.take ((c.room - 1).toNat)).length cc_0) rfl rfl sh45 rfl) rfl rfl rfl ?_
      refine o_pure (p_move (v := .int .i64 key) rfl) rfl rfl rfl ?_
      refine o_buildSlice (m := 1) (T := tInt) (L := [key]) (vs := [.int .i64 key]) rfl rfl rfl rfl Try.underlying45 sz3 (by decide) ze3 rfl (by decide) rfl (fun S16 a17 => ?_)
      refine o_pick (H' := [own tInt Sc_0 ac_0 cc_0 (c.keys.take ((c.room - 1).toNat)), own tInt S16 a17 ([key].length) ([key]), outer w0 [box Bc [.int .i64 c.room, .slice ac_0 c.keys.length cc_0] 122, own tInt Sc_0 ac_0 cc_0 c.keys], box Bc [.int .i64 c.room, .slice ac_0 (c.keys.take ((c.room - 1).toNat)).length cc_0] 122]) [3, 0, 1, 2] (by decide) rfl ?_
      refine o_callX (pre := [own tInt Sc_0 ac_0 cc_0 (c.keys.take ((c.room - 1).toNat)), own tInt S16 a17 ([key].length) ([key])]) (R := [outer w0 [box Bc [.int .i64 c.room, .slice ac_0 c.keys.length cc_0] 122, own tInt Sc_0 ac_0 cc_0 c.keys], box Bc [.int .i64 c.room, .slice ac_0 (c.keys.take ((c.room - 1).toNat)).length cc_0] 122]) rfl (insert_Int_ok (c.keys.take ((c.room - 1).toNat)) ac_0 cc_0 Sc_0 (0 : Int) ([key]) a17 ([key].length) S16 (by (try simp only [List.length_cons, List.length_nil, List.length_append, List.length_take, List.length_drop, and_true]); omega)) hf110 rfl (fun _ _ => trivial) rfl ?_
      rintro ⟨a19, c20, S21⟩
      refine o_asH (H' := [own tInt S21 a19 c20 ((c.keys.take ((c.room - 1).toNat)).take (0 : Int).toNat ++ ([key]) ++ (c.keys.take ((c.room - 1).toNat)).drop (0 : Int).toNat), outer w0 [box Bc [.int .i64 c.room, .slice ac_0 c.keys.length cc_0] 122, own tInt Sc_0 ac_0 cc_0 c.keys], box Bc [.int .i64 c.room, .slice ac_0 (c.keys.take ((c.room - 1).toNat)).length cc_0] 122]) rfl ?_
      refine o_pure (p_nilCheck rfl) rfl rfl rfl ?_
      refine o_pure (p_fieldAddr (B := Bc) (j := 0) (j' := 0) rfl fo122_0 rfl) rfl rfl rfl ?_
      refine o_pure (p_fieldAddr (B := Bc) (j := 0) (j' := 1) rfl fo74_1 rfl) rfl rfl rfl ?_
      refine o_store (i := 2) (v := .slice a19 ((c.keys.take ((c.room - 1).toNat)).take (0 : Int).toNat ++ ([key]) ++ (c.keys.take ((c.room - 1).toNat)).drop (0 : Int).toNat).length c20) (cs' := [.int .i64 c.room, .slice a19 ((c.keys.take ((c.room - 1).toNat)).take (0 : Int).toNat ++ ([key]) ++ (c.keys.take ((c.room - 1).toNat)).drop (0 : Int).toNat).length c20]) rfl rfl rfl sz45 rfl rfl rfl ?_
      refine o_nil ?_
      refine q_then ?_
      refine c_seq ?_
      refine c_region ?_
      refine o_pure (p_move (v := .int .i64 (idxF (fun x : Int => (x == key)) c.keys)) rfl) rfl rfl rfl ?_
      refine o_pure (p_ge (p := (idxF (fun x : Int => (x == key)) c.keys)) (q := 0) rfl rfl) rfl rfl rfl ?_
      refine o_pure (p_move (v := .int .i64 (c.keys[(c.room - 1).toNat])) rfl) rfl rfl rfl ?_
      refine o_pure (p_assign (v := .bool (decide (0 ≤ (idxF (fun x : Int => (x == key)) c.keys)))) rfl) rfl rfl rfl ?_
      refine o_pure (p_assign (v := .int .i64 (c.keys[(c.room - 1).toNat])) rfl) rfl rfl rfl ?_
      refine o_nil ?_
      refine q_then ?_
      refine c_ret ?_
      first
        | have ht := Lru.touch_hit (c := c) (key := key) hy1 (by assumption)
        | have ht := Lru.touch_full (c := c) (key := key) hy1 (by assumption) (by assumption) (by omega)
        | have ht := Lru.touch_add (c := c) (key := key) hy1 (by assumption) (by assumption)
      have hr0 : (c.room : Int) = ((Lru.touch c key).1).room := by
        first | (rw [ht]; done) | (rw [ht]; rfl) | (rw [ht]; exact (Lru.ins0 _ _).trans (by rw [Lru.nat1 (by omega)])) | (rw [ht]; exact decide_eq_true (by omega)) | (rw [ht]; exact decide_eq_false (by omega))
      have hr1 : (((c.keys.take ((c.room - 1).toNat)).take (0 : Int).toNat ++ ([key]) ++ (c.keys.take ((c.room - 1).toNat)).drop (0 : Int).toNat) : List Int) = ((Lru.touch c key).1).keys := by
        first | (rw [ht]; done) | (rw [ht]; rfl) | (rw [ht]; exact (Lru.ins0 _ _).trans (by rw [Lru.nat1 (by omega)])) | (rw [ht]; exact decide_eq_true (by omega)) | (rw [ht]; exact decide_eq_false (by omega))
      have hr2 : (decide (0 ≤ (idxF (fun x : Int => (x == key)) c.keys)) : Bool) = ((Lru.touch c key).2.1) := by
        first | (rw [ht]; done) | (rw [ht]; rfl) | (rw [ht]; exact (Lru.ins0 _ _).trans (by rw [Lru.nat1 (by omega)])) | (rw [ht]; exact decide_eq_true (by omega)) | (rw [ht]; exact decide_eq_false (by omega))
      have hr3 : (c.keys[(c.room - 1).toNat] : Int) = ((Lru.touch c key).2.2) := by
        first | (rw [ht]; done) | (rw [ht]; rfl) | (rw [ht]; exact (Lru.ins0 _ _).trans (by rw [Lru.nat1 (by omega)])) | (rw [ht]; exact decide_eq_true (by omega)) | (rw [ht]; exact decide_eq_false (by omega))
      refine q_endX (p := (a19, c20, S21)) (rt2 rfl (r_tmp rfl) (r_tmp rfl)) ?_ (fun w hw => ?_)
      · exact (by have hcc := congr (congr (congr (congrArg (fun (y0 : Int) (y1 : List Int) (y2 : Bool) (y3 : Int) => (.tuple #[.bool y2, .int .i64 y3] : Value)) hr0) hr1) hr2) hr3; exact hcc)
      · have h2 := hw.pick (H' := [outer w0 [box Bc [.int .i64 c.room, .slice ac_0 c.keys.length cc_0] 122, own tInt Sc_0 ac_0 cc_0 c.keys], box Bc [.int .i64 c.room, .slice a19 ((c.keys.take ((c.room - 1).toNat)).take (0 : Int).toNat ++ ([key]) ++ (c.keys.take ((c.room - 1).toNat)).drop (0 : Int).toNat).length c20] 122, own tInt S21 a19 c20 ((c.keys.take ((c.room - 1).toNat)).take (0 : Int).toNat ++ ([key]) ++ (c.keys.take ((c.room - 1).toNat)).drop (0 : Int).toNat)]) [1, 2, 0] (by decide) rfl
        exact Eq.mp (congrArg (fun z => HeapIs w0 ((outer w0 [box Bc [.int .i64 c.room, .slice ac_0 c.keys.length cc_0] 122, own tInt Sc_0 ac_0 cc_0 c.keys]) :: z) w) ((by have hcc := congr (congr (congr (congrArg (fun (y0 : Int) (y1 : List Int) (y2 : Bool) (y3 : Int) => ([box Bc [.int .i64 y0, .slice a19 y1.length c20] 122, own tInt S21 a19 c20 y1] : List Ent)) hr0) hr1) hr2) hr3; exact hcc))) h2
    · simp only [beq_eq_false_iff_ne, ne_eq] at hc13
      refine c_skip ?_
      refine q_block_normal (q_then ?_)
      refine c_seq ?_
      refine c_region ?_
      refine o_pure (p_move (v := .pointer (some ⟨Bc, 0, none⟩)) rfl) rfl rfl rfl ?_
      refine o_pure (p_move (v := .pointer (some ⟨Bc, 0, none⟩)) rfl) rfl rfl rfl ?_
      refine o_pure (p_nilCheck rfl) rfl rfl rfl ?_
      refine o_pure (p_fieldAddr (B := Bc) (j := 0) (j' := 0) rfl fo122_0 rfl) rfl rfl rfl ?_
      refine o_pure (p_fieldAddr (B := Bc) (j := 0) (j' := 1) rfl fo74_1 rfl) rfl rfl rfl ?_
      refine o_pure (p_load (i := 1) (v := .slice ac_0 c.keys.length cc_0) rfl rfl sh45 rfl) rfl rfl rfl ?_
      refine o_pure (p_move (v := .int .i64 key) rfl) rfl rfl rfl ?_
      refine o_buildSlice (m := 1) (T := tInt) (L := [key]) (vs := [.int .i64 key]) rfl rfl rfl rfl Try.underlying45 sz3 (by decide) ze3 rfl (by decide) rfl (fun S23 a24 => ?_)
      refine o_pick (H' := [own tInt Sc_0 ac_0 cc_0 c.keys, own tInt S23 a24 ([key].length) ([key]), outer w0 [box Bc [.int .i64 c.room, .slice ac_0 c.keys.length cc_0] 122, own tInt Sc_0 ac_0 cc_0 c.keys], box Bc [.int .i64 c.room, .slice ac_0 c.keys.length cc_0] 122]) [3, 0, 1, 2] (by decide) rfl ?_
      refine o_callX (pre := [own tInt Sc_0 ac_0 cc_0 c.keys, own tInt S23 a24 ([key].length) ([key])]) (R := [outer w0 [box Bc [.int .i64 c.room, .slice ac_0 c.keys.length cc_0] 122, own tInt Sc_0 ac_0 cc_0 c.keys], box Bc [.int .i64 c.room, .slice ac_0 c.keys.length cc_0] 122]) rfl (insert_Int_ok c.keys ac_0 cc_0 Sc_0 (0 : Int) ([key]) a24 ([key].length) S23 (by (try simp only [List.length_cons, List.length_nil, List.length_append, List.length_take, List.length_drop, and_true]); omega)) hf110 rfl (fun _ _ => trivial) rfl ?_
      rintro ⟨a26, c27, S28⟩
      refine o_asH (H' := [own tInt S28 a26 c27 (c.keys.take (0 : Int).toNat ++ ([key]) ++ c.keys.drop (0 : Int).toNat), outer w0 [box Bc [.int .i64 c.room, .slice ac_0 c.keys.length cc_0] 122, own tInt Sc_0 ac_0 cc_0 c.keys], box Bc [.int .i64 c.room, .slice ac_0 c.keys.length cc_0] 122]) rfl ?_
      refine o_pure (p_nilCheck rfl) rfl rfl rfl ?_
      refine o_pure (p_fieldAddr (B := Bc) (j := 0) (j' := 0) rfl fo122_0 rfl) rfl rfl rfl ?_
      refine o_pure (p_fieldAddr (B := Bc) (j := 0) (j' := 1) rfl fo74_1 rfl) rfl rfl rfl ?_
      refine o_store (i := 2) (v := .slice a26 (c.keys.take (0 : Int).toNat ++ ([key]) ++ c.keys.drop (0 : Int).toNat).length c27) (cs' := [.int .i64 c.room, .slice a26 (c.keys.take (0 : Int).toNat ++ ([key]) ++ c.keys.drop (0 : Int).toNat).length c27]) rfl rfl rfl sz45 rfl rfl rfl ?_
      refine o_nil ?_
      refine q_then ?_
      refine c_seq ?_
      refine c_region ?_
      refine o_pure (p_move (v := .int .i64 (idxF (fun x : Int => (x == key)) c.keys)) rfl) rfl rfl rfl ?_
      refine o_pure (p_ge (p := (idxF (fun x : Int => (x == key)) c.keys)) (q := 0) rfl rfl) rfl rfl rfl ?_
      refine o_pure (p_move (v := .int .i64 (-1)) rfl) rfl rfl rfl ?_
      refine o_pure (p_assign (v := .bool (decide (0 ≤ (idxF (fun x : Int => (x == key)) c.keys)))) rfl) rfl rfl rfl ?_
      refine o_pure (p_assign (v := .int .i64 (-1)) rfl) rfl rfl rfl ?_
      refine o_nil ?_
      refine q_then ?_
      refine c_ret ?_
      first
        | have ht := Lru.touch_hit (c := c) (key := key) hy1 (by assumption)
        | have ht := Lru.touch_full (c := c) (key := key) hy1 (by assumption) (by assumption) (by omega)
        | have ht := Lru.touch_add (c := c) (key := key) hy1 (by assumption) (by assumption)
      have hr0 : (c.room : Int) = ((Lru.touch c key).1).room := by
        first | (rw [ht]; done) | (rw [ht]; rfl) | (rw [ht]; exact (Lru.ins0 _ _).trans (by rw [Lru.nat1 (by omega)])) | (rw [ht]; exact decide_eq_true (by omega)) | (rw [ht]; exact decide_eq_false (by omega))
      have hr1 : ((c.keys.take (0 : Int).toNat ++ ([key]) ++ c.keys.drop (0 : Int).toNat) : List Int) = ((Lru.touch c key).1).keys := by
        first | (rw [ht]; done) | (rw [ht]; rfl) | (rw [ht]; exact (Lru.ins0 _ _).trans (by rw [Lru.nat1 (by omega)])) | (rw [ht]; exact decide_eq_true (by omega)) | (rw [ht]; exact decide_eq_false (by omega))
      have hr2 : (decide (0 ≤ (idxF (fun x : Int => (x == key)) c.keys)) : Bool) = ((Lru.touch c key).2.1) := by
        first | (rw [ht]; done) | (rw [ht]; rfl) | (rw [ht]; exact (Lru.ins0 _ _).trans (by rw [Lru.nat1 (by omega)])) | (rw [ht]; exact decide_eq_true (by omega)) | (rw [ht]; exact decide_eq_false (by omega))
      have hr3 : ((-1) : Int) = ((Lru.touch c key).2.2) := by
        first | (rw [ht]; done) | (rw [ht]; rfl) | (rw [ht]; exact (Lru.ins0 _ _).trans (by rw [Lru.nat1 (by omega)])) | (rw [ht]; exact decide_eq_true (by omega)) | (rw [ht]; exact decide_eq_false (by omega))
      refine q_endX (p := (a26, c27, S28)) (rt2 rfl (r_tmp rfl) (r_tmp rfl)) ?_ (fun w hw => ?_)
      · exact (by have hcc := congr (congr (congr (congrArg (fun (y0 : Int) (y1 : List Int) (y2 : Bool) (y3 : Int) => (.tuple #[.bool y2, .int .i64 y3] : Value)) hr0) hr1) hr2) hr3; exact hcc)
      · have h2 := hw.pick (H' := [outer w0 [box Bc [.int .i64 c.room, .slice ac_0 c.keys.length cc_0] 122, own tInt Sc_0 ac_0 cc_0 c.keys], box Bc [.int .i64 c.room, .slice a26 (c.keys.take (0 : Int).toNat ++ ([key]) ++ c.keys.drop (0 : Int).toNat).length c27] 122, own tInt S28 a26 c27 (c.keys.take (0 : Int).toNat ++ ([key]) ++ c.keys.drop (0 : Int).toNat)]) [1, 2, 0] (by decide) rfl
        exact Eq.mp (congrArg (fun z => HeapIs w0 ((outer w0 [box Bc [.int .i64 c.room, .slice ac_0 c.keys.length cc_0] 122, own tInt Sc_0 ac_0 cc_0 c.keys]) :: z) w) ((by have hcc := congr (congr (congr (congrArg (fun (y0 : Int) (y1 : List Int) (y2 : Bool) (y3 : Int) => ([box Bc [.int .i64 y0, .slice a26 y1.length c27] 122, own tInt S28 a26 c27 y1] : List Ent)) hr0) hr1) hr2) hr3; exact hcc))) h2

set_option maxHeartbeats 8000000 in
set_option maxRecDepth 100000 in
theorem lrun_ok (c : DCache) (ac_0 : Option Addr) (cc_0 : Nat) (l : List Int) (al : Option Addr) (cl : Nat) : FnM Try.prog 49 [.agg #[.int .i64 c.room, .slice ac_0 c.keys.length cc_0], .slice al l.length cl] (fun w => Rd tInt w ac_0 cc_0 c.keys ∧ Rd tInt w al cl l) (Option Addr × Nat) (fun p => .tuple #[.agg #[.int .i64 (((Lru.run c l).1).room), .slice p.1 (((Lru.run c l).1).keys).length p.2], .int .i64 ((Lru.run c l).2), .int .i64 (Lru.runErr c l)]) (fun p S w => SlO tInt S w p.1 p.2 (((Lru.run c l).1).keys)) := by
  refine fnM (nt := 47) (F0 := [(0, .agg #[.int .i64 c.room, .slice ac_0 c.keys.length cc_0]), (1, .slice al l.length cl)]) Try.func49 rfl Try.ntmps49 rfl rfl (fun w0 hpre => ?_)
  obtain ⟨hc_0, hl⟩ := hpre
  have hlhc_0 := hc_0.2.1
  have hlhl := hl.2.1
  refine c_seq ?_
  refine c_region ?_
  refine o_box (v := .agg #[.int .i64 c.room, .slice ac_0 c.keys.length cc_0]) rfl rfl (fun B1 => ?_)
  refine o_alloc ze74 rfl (fun B2 => ?_)
  refine o_pure (p_assign (v := .int .i64 0) rfl) rfl rfl rfl ?_
  refine o_pure (p_assign (v := .int .i64 0) rfl) rfl rfl rfl ?_
  refine o_nil ?_
  refine q_then ?_
  refine c_seq ?_
  refine c_region ?_
  refine o_pure (p_load_agg (i := 1) (vs := [.int .i64 c.room, .slice ac_0 c.keys.length cc_0]) rfl rfl sh74 rfl rfl) rfl rfl rfl ?_
  refine o_call0 (v := .int .i64 (Lru.check c)) rfl (lcheck_ok c ac_0 cc_0) hf82 (fun w hw => (rd_base (i := 2) rfl hc_0) w hw) rfl ?_
  refine o_pure (p_assign (v := .int .i64 (Lru.check c)) rfl) rfl rfl rfl ?_
  refine o_nil ?_
  refine q_then ?_
  refine c_seq ?_
  refine c_seq ?_
  refine c_region ?_
  refine o_pure (p_move (v := .int .i64 (Lru.check c)) rfl) rfl rfl rfl ?_
  refine o_pure (p_eq (p := (Lru.check c)) (q := 0) rfl rfl) rfl rfl rfl ?_
  refine o_nil ?_
  refine q_then ?_
  refine c_cond (b := ((Lru.check c) == 0)) rfl (fun hc3 => ?_) (fun hc3 => ?_)
  · simp only [beq_iff_eq] at hc3
    have hok := Lru.ok_of hc3
    have hroom := hok.room
    have hlen := hok.len
    refine c_region ?_
    refine o_pure (p_move (v := .slice al l.length cl) rfl) rfl rfl rfl ?_
    refine o_call0 (v := .int .i64 (Lru.trace l)) rfl (checkTrace_ok l al cl) hf73 (fun w hw => (rd_base (i := 2) rfl hl) w hw) rfl ?_
    refine o_pure (p_assign (v := .int .i64 (Lru.trace l)) rfl) rfl rfl rfl ?_
    refine o_nil ?_
    refine q_then ?_
    refine c_seq ?_
    refine c_seq ?_
    refine c_region ?_
    refine o_pure (p_move (v := .int .i64 (Lru.trace l)) rfl) rfl rfl rfl ?_
    refine o_pure (p_ne (p := (Lru.trace l)) (q := 0) rfl rfl) rfl rfl rfl ?_
    refine o_nil ?_
    refine q_then ?_
    refine c_cond (b := ((Lru.trace l) != 0)) rfl (fun hc4 => ?_) (fun hc4 => ?_)
    · simp only [bne_iff_ne, ne_eq] at hc4
      refine c_seq ?_
      refine c_region ?_
      refine o_pure (p_build (cells := [.int .i64 0, .slice none 0 0]) fp74 ze74 rfl rfl) rfl rfl rfl ?_
      refine o_pure (p_move (v := .int .i64 (Lru.trace l)) rfl) rfl rfl rfl ?_
      refine o_storeN (i := 0) (vs := [.int .i64 0, .slice none 0 0]) (cs' := [.int .i64 0, .slice none 0 0]) rfl rfl rfl sz74 rfl rfl rfl rfl ?_
      refine o_pure (p_assign (v := .int .i64 0) rfl) rfl rfl rfl ?_
      refine o_pure (p_assign (v := .int .i64 (Lru.trace l)) rfl) rfl rfl rfl ?_
      refine o_nil ?_
      refine q_then ?_
      refine c_ret ?_
      refine q_then_ret ?_
      obtain ⟨ha, hae⟩ : _ ∧ _ := by first | exact Lru.run1 (c := c) (l := l) (by assumption) | exact Lru.run2 (c := c) (l := l) (by assumption) (by assumption) | (obtain ⟨h1, h2⟩ := Lru.run3 (c := c) (l := l) (by assumption) (by assumption); rw [hI.done (by omega)] at h1; exact ⟨h1, h2⟩)
      have hr0 : (0 : Int) = ((Lru.run c l).1).room := by
        simp only [ha, hae, Lru.zero]
      have hr1 : ([] : List Int) = ((Lru.run c l).1).keys := by
        simp only [ha, hae, Lru.zero]
      have hr2 : (0 : Int) = ((Lru.run c l).2) := by
        simp only [ha, hae, Lru.zero]
      have hr3 : ((Lru.trace l) : Int) = (Lru.runErr c l) := by
        simp only [ha, hae, Lru.zero]
      refine q_endM (p := (none, 0)) (fun _ => False) (rt3 rfl (r_cell (i := 0) rfl rfl sh74 rfl) (r_tmp rfl) (r_tmp rfl)) (i := 2) rfl ?_ ?_ ?_
      · exact (by have hcc := congr (congr (congr (congrArg (fun (y0 : Int) (y1 : List Int) (y2 : Int) (y3 : Int) => (.tuple #[.agg #[.int .i64 y0, .slice none y1.length 0], .int .i64 y2, .int .i64 y3] : Value)) hr0) hr1) hr2) hr3; exact hcc)
      · intro w hw b hb; exact hb.elim
      · intro w hw; exact Eq.mp (congrArg (fun y => SlO tInt _ w none 0 y) hr1) (SlO.nil tInt w)
    · simp only [bne_eq_false_iff_eq] at hc4
      refine c_skip ?_
      refine q_then ?_
      refine c_seq ?_
      refine c_region ?_
      refine o_pure (p_load_agg (i := 1) (vs := [.int .i64 c.room, .slice ac_0 c.keys.length cc_0]) rfl rfl sh74 rfl rfl) rfl rfl rfl ?_
      refine o_callX (pre := []) (R := [box B2 [.int .i64 0, .slice none 0 0] 74, box B1 [.int .i64 c.room, .slice ac_0 c.keys.length cc_0] 74, base w0]) rfl (lowned_ok c ac_0 cc_0 (by omega)) hf83 rfl (fun w hw => (rdX (i := 2) (js := []) rfl (by decide) rfl (fun _ hA => slR_base hc_0 hA)) w hw) rfl ?_
      rintro ⟨B5, a6, c7, S8⟩
      refine o_asH (H' := [box B5 [.int .i64 c.room, .slice a6 c.keys.length c7] 122, own tInt S8 a6 c7 c.keys, box B2 [.int .i64 0, .slice none 0 0] 74, box B1 [.int .i64 c.room, .slice ac_0 c.keys.length cc_0] 74, base w0]) rfl ?_
      refine o_pure (p_assign (v := .pointer (some ⟨B5, 0, none⟩)) rfl) rfl rfl rfl ?_
      refine o_pure (p_assign (v := .int .i64 0) rfl) rfl rfl rfl ?_
      refine o_nil ?_
      refine q_then ?_
      refine c_seq ?_
      refine c_seq ?_
      refine c_region ?_
      refine o_pure (p_move (v := .slice al l.length cl) rfl) rfl rfl rfl ?_
      refine o_pure (p_len_slice (len := l.length) rfl rfl Try.underlying45) rfl rfl rfl ?_
      refine o_pure (p_move (v := .int .i64 0) rfl) rfl rfl rfl ?_
      refine o_nil ?_
      refine q_then ?_
      refine c_block ?_
      refine c_loop (St := Int × Nat × DCache × Option Addr × Nat × (Nat → Prop))
        (fun ⟨hits, k, cc, acc_0, ccc_0, Scc_0⟩ => [(4, .pointer (some ⟨B2, 0, none⟩)), (8, .pointer (some ⟨B5, 0, none⟩)), (9, .int .i64 hits), (26, .slice al l.length cl), (27, .int .i64 (l.length : Int)), (28, .int .i64 (k : Int))])
        (fun ⟨hits, k, cc, acc_0, ccc_0, Scc_0⟩ => [box B5 [.int .i64 cc.room, .slice acc_0 cc.keys.length ccc_0] 122, own tInt Scc_0 acc_0 ccc_0 cc.keys, box B2 [.int .i64 0, .slice none 0 0] 74, box B1 [.int .i64 c.room, .slice ac_0 c.keys.length cc_0] 74, base w0])
        (fun ⟨hits, k, cc, acc_0, ccc_0, Scc_0⟩ => Lru.RInv c cc l hits k)
        (fun ⟨hits, k, cc, acc_0, ccc_0, Scc_0⟩ => l.length - k)
        (0, 0, c, a6, c7, S8) ?_ (Sub.cons rfl (Sub.cons rfl (Sub.cons rfl (Sub.cons rfl (Sub.cons rfl (Sub.cons rfl (Sub.nil _))))))) (fun _ hw => hw) ?_
      · exact Lru.RInv.start' (by assumption) (by assumption)
      rintro ⟨hits, k, cc, acc_0, ccc_0, Scc_0⟩ hI K hK10
      have hn0 := hI.n0
      have hn1 := hI.n1
      show SC _ _ Try.prog 47 w0 _ _ [(4, .pointer (some ⟨B2, 0, none⟩)), (8, .pointer (some ⟨B5, 0, none⟩)), (9, .int .i64 hits), (26, .slice al l.length cl), (27, .int .i64 (l.length : Int)), (28, .int .i64 (k : Int))] [box B5 [.int .i64 cc.room, .slice acc_0 cc.keys.length ccc_0] 122, own tInt Scc_0 acc_0 ccc_0 cc.keys, box B2 [.int .i64 0, .slice none 0 0] 74, box B1 [.int .i64 c.room, .slice ac_0 c.keys.length cc_0] 74, base w0]
      refine c_seq ?_
      refine c_region ?_
      refine o_pure (p_lt (p := (k : Int)) (q := (l.length : Int)) rfl rfl) rfl rfl rfl ?_
      refine o_nil ?_
      refine q_then ?_
      refine c_seq ?_
      refine c_cond (b := decide ((k : Int) < (l.length : Int))) rfl (fun hc11 => ?_) (fun hc11 => ?_)
      · simp only [decide_eq_true_eq] at hc11
        refine c_skip ?_
        refine q_then ?_
        refine c_seq ?_
        refine c_block ?_
        refine c_seq ?_
        refine c_region ?_
        refine o_pure (p_indexAddr (L := l) (T := tInt) (i := (k : Int)) rfl rfl (rd_base (i := 4) rfl hl) Try.underlying45 sz3 (by omega) (by omega)) rfl rfl rfl ?_
        refine o_pure (p_loadE1 (i := k) (T := tInt) (L := l) (v := .int .i64 (l[k])) rfl (rd_base (i := 4) rfl hl) (by first | assumption | omega) sh3 rfl) rfl rfl rfl ?_
        refine o_pure (p_assign (v := .int .i64 (l[k])) rfl) rfl rfl rfl ?_
        refine o_nil ?_
        refine q_then ?_
        refine c_seq ?_
        refine c_region ?_
        refine o_pure (p_move (v := .pointer (some ⟨B5, 0, none⟩)) rfl) rfl rfl rfl ?_
        refine o_pure (p_move (v := .int .i64 (l[k])) rfl) rfl rfl rfl ?_
        refine o_callX (pre := [box B5 [.int .i64 cc.room, .slice acc_0 cc.keys.length ccc_0] 122, own tInt Scc_0 acc_0 ccc_0 cc.keys]) (R := [box B2 [.int .i64 0, .slice none 0 0] 74, box B1 [.int .i64 c.room, .slice ac_0 c.keys.length cc_0] 74, base w0]) rfl (ltouch_ok cc B5 acc_0 ccc_0 Scc_0 (l[k]) (by first | assumption | exact hI.ok | omega)) hf84 rfl (fun _ _ => trivial) rfl ?_
        rintro ⟨a12, c13, S14⟩
        refine o_asH (H' := [box B5 [.int .i64 (((Lru.touch cc (l[k])).1).room), .slice a12 (((Lru.touch cc (l[k])).1).keys).length c13] 122, own tInt S14 a12 c13 (((Lru.touch cc (l[k])).1).keys), box B2 [.int .i64 0, .slice none 0 0] 74, box B1 [.int .i64 c.room, .slice ac_0 c.keys.length cc_0] 74, base w0]) rfl ?_
        refine o_pure (p_move (v := .tuple #[.bool ((Lru.touch cc (l[k])).2.1), .int .i64 ((Lru.touch cc (l[k])).2.2)]) rfl) rfl rfl rfl ?_
        refine o_pure (p_extract (vs := [.bool ((Lru.touch cc (l[k])).2.1), .int .i64 ((Lru.touch cc (l[k])).2.2)]) (v := .bool ((Lru.touch cc (l[k])).2.1)) rfl rfl) rfl rfl rfl ?_
        refine o_pure (p_extract (vs := [.bool ((Lru.touch cc (l[k])).2.1), .int .i64 ((Lru.touch cc (l[k])).2.2)]) (v := .int .i64 ((Lru.touch cc (l[k])).2.2)) rfl rfl) rfl rfl rfl ?_
        refine o_pure (p_assign (v := .bool ((Lru.touch cc (l[k])).2.1)) rfl) rfl rfl rfl ?_
        refine o_pure (p_assign (v := .int .i64 ((Lru.touch cc (l[k])).2.2)) rfl) rfl rfl rfl ?_
        refine o_nil ?_
        refine q_then ?_
        refine c_seq ?_
        refine c_region ?_
        refine o_pure (p_move (v := .bool ((Lru.touch cc (l[k])).2.1)) rfl) rfl rfl rfl ?_
        refine o_nil ?_
        refine q_then ?_
        refine c_cond (b := ((Lru.touch cc (l[k])).2.1)) rfl (fun hc16 => ?_) (fun hc16 => ?_)
        · skip
          refine c_region ?_
          refine o_pure (p_move (v := .int .i64 hits) rfl) rfl rfl rfl ?_
          refine o_pure (p_addb (p := hits) (q := 1) rfl rfl (by omega)) rfl rfl rfl ?_
          refine o_pure (p_assign (v := .int .i64 (hits + 1)) rfl) rfl rfl rfl ?_
          refine o_nil ?_
          refine q_block_normal (q_then ?_)
          refine c_region ?_
          refine o_pure (p_addb (p := (k : Int)) (q := 1) rfl rfl (by omega)) rfl rfl rfl ?_
          refine o_pure (p_move (v := .int .i64 ((k : Int) + 1)) rfl) rfl rfl rfl ?_
          refine o_nil ?_
          refine q_round hK10 ((hits + 1), k + 1, ((Lru.touch cc (l[k])).1), a12, c13, S14) ?_ ?_ ?_ ?_
          · clear hK10
            first | exact hI.hit (by omega) (by assumption) | exact hI.miss (by omega) (by assumption)
          · (try dsimp only); omega
          · exact Sub.cons rfl (Sub.cons rfl (Sub.cons rfl (Sub.cons rfl (Sub.cons rfl (Sub.cons rfl (Sub.nil _))))))
          · exact fun _ hw => HeapIs.pick hw [0, 1, 2, 3, 4] (by decide) rfl
        · skip
          refine c_skip ?_
          refine q_block_normal (q_then ?_)
          refine c_region ?_
          refine o_pure (p_addb (p := (k : Int)) (q := 1) rfl rfl (by omega)) rfl rfl rfl ?_
          refine o_pure (p_move (v := .int .i64 ((k : Int) + 1)) rfl) rfl rfl rfl ?_
          refine o_nil ?_
          refine q_round hK10 (hits, k + 1, ((Lru.touch cc (l[k])).1), a12, c13, S14) ?_ ?_ ?_ ?_
          · clear hK10
            first | exact hI.hit (by omega) (by assumption) | exact hI.miss (by omega) (by assumption)
          · (try dsimp only); omega
          · exact Sub.cons rfl (Sub.cons rfl (Sub.cons rfl (Sub.cons rfl (Sub.cons rfl (Sub.cons rfl (Sub.nil _))))))
          · exact fun _ hw => HeapIs.pick hw [0, 1, 2, 3, 4] (by decide) rfl
      · simp only [decide_eq_false_iff_not, Int.not_lt] at hc11
        refine c_exit ?_
        refine q_then_exit (q_then_exit (q_block_exit (q_then ?_)))
        refine c_seq ?_
        refine c_region ?_
        refine o_pure (p_move (v := .pointer (some ⟨B5, 0, none⟩)) rfl) rfl rfl rfl ?_
        refine o_pure (p_nilCheck rfl) rfl rfl rfl ?_
        refine o_pure (p_fieldAddr (B := B5) (j := 0) (j' := 0) rfl fo122_0 rfl) rfl rfl rfl ?_
        refine o_pure (p_load_agg (i := 0) (vs := [.int .i64 cc.room, .slice acc_0 cc.keys.length ccc_0]) rfl rfl sh74 rfl rfl) rfl rfl rfl ?_
        refine o_pure (p_move (v := .int .i64 hits) rfl) rfl rfl rfl ?_
        refine o_storeN (i := 2) (vs := [.int .i64 cc.room, .slice acc_0 cc.keys.length ccc_0]) (cs' := [.int .i64 cc.room, .slice acc_0 cc.keys.length ccc_0]) rfl rfl rfl sz74 rfl rfl rfl rfl ?_
        refine o_pure (p_assign (v := .int .i64 hits) rfl) rfl rfl rfl ?_
        refine o_pure (p_assign (v := .int .i64 0) rfl) rfl rfl rfl ?_
        refine o_nil ?_
        refine q_then ?_
        refine c_ret ?_
        obtain ⟨ha, hae⟩ : _ ∧ _ := by first | exact Lru.run1 (c := c) (l := l) (by assumption) | exact Lru.run2 (c := c) (l := l) (by assumption) (by assumption) | (obtain ⟨h1, h2⟩ := Lru.run3 (c := c) (l := l) (by assumption) (by assumption); rw [hI.done (by omega)] at h1; exact ⟨h1, h2⟩)
        have hr0 : (cc.room : Int) = ((Lru.run c l).1).room := by
          simp only [ha, hae, Lru.zero]
        have hr1 : (cc.keys : List Int) = ((Lru.run c l).1).keys := by
          simp only [ha, hae, Lru.zero]
        have hr2 : (hits : Int) = ((Lru.run c l).2) := by
          simp only [ha, hae, Lru.zero]
        have hr3 : (0 : Int) = (Lru.runErr c l) := by
          simp only [ha, hae, Lru.zero]
        refine q_endM (p := (acc_0, ccc_0)) Scc_0 (rt3 rfl (r_cell (i := 2) rfl rfl sh74 rfl) (r_tmp rfl) (r_tmp rfl)) (i := 4) rfl ?_ ?_ ?_
        · exact (by have hcc := congr (congr (congr (congrArg (fun (y0 : Int) (y1 : List Int) (y2 : Int) (y3 : Int) => (.tuple #[.agg #[.int .i64 y0, .slice acc_0 y1.length ccc_0], .int .i64 y2, .int .i64 y3] : Value)) hr0) hr1) hr2) hr3; exact hcc)
        · exact fun w hw => hw.above (i := 4) (j := 1) (by decide) rfl rfl
        · intro w hw; exact Eq.mp (congrArg (fun y => SlO tInt _ w acc_0 ccc_0 y) hr1) ((hw.at (i := 1) rfl).here)
  · simp only [beq_eq_false_iff_ne, ne_eq] at hc3
    refine c_skip ?_
    refine q_then ?_
    refine c_seq ?_
    refine c_seq ?_
    refine c_region ?_
    refine o_pure (p_move (v := .int .i64 (Lru.check c)) rfl) rfl rfl rfl ?_
    refine o_pure (p_ne (p := (Lru.check c)) (q := 0) rfl rfl) rfl rfl rfl ?_
    refine o_nil ?_
    refine q_then ?_
    refine c_cond (b := ((Lru.check c) != 0)) rfl (fun hc17 => ?_) (fun hc17 => ?_)
    · simp only [bne_iff_ne, ne_eq] at hc17
      refine c_seq ?_
      refine c_region ?_
      refine o_pure (p_build (cells := [.int .i64 0, .slice none 0 0]) fp74 ze74 rfl rfl) rfl rfl rfl ?_
      refine o_pure (p_move (v := .int .i64 (Lru.check c)) rfl) rfl rfl rfl ?_
      refine o_storeN (i := 0) (vs := [.int .i64 0, .slice none 0 0]) (cs' := [.int .i64 0, .slice none 0 0]) rfl rfl rfl sz74 rfl rfl rfl rfl ?_
      refine o_pure (p_assign (v := .int .i64 0) rfl) rfl rfl rfl ?_
      refine o_pure (p_assign (v := .int .i64 (Lru.check c)) rfl) rfl rfl rfl ?_
      refine o_nil ?_
      refine q_then ?_
      refine c_ret ?_
      refine q_then_ret ?_
      obtain ⟨ha, hae⟩ : _ ∧ _ := by first | exact Lru.run1 (c := c) (l := l) (by assumption) | exact Lru.run2 (c := c) (l := l) (by assumption) (by assumption) | (obtain ⟨h1, h2⟩ := Lru.run3 (c := c) (l := l) (by assumption) (by assumption); rw [hI.done (by omega)] at h1; exact ⟨h1, h2⟩)
      have hr0 : (0 : Int) = ((Lru.run c l).1).room := by
        simp only [ha, hae, Lru.zero]
      have hr1 : ([] : List Int) = ((Lru.run c l).1).keys := by
        simp only [ha, hae, Lru.zero]
      have hr2 : (0 : Int) = ((Lru.run c l).2) := by
        simp only [ha, hae, Lru.zero]
      have hr3 : ((Lru.check c) : Int) = (Lru.runErr c l) := by
        simp only [ha, hae, Lru.zero]
      refine q_endM (p := (none, 0)) (fun _ => False) (rt3 rfl (r_cell (i := 0) rfl rfl sh74 rfl) (r_tmp rfl) (r_tmp rfl)) (i := 2) rfl ?_ ?_ ?_
      · exact (by have hcc := congr (congr (congr (congrArg (fun (y0 : Int) (y1 : List Int) (y2 : Int) (y3 : Int) => (.tuple #[.agg #[.int .i64 y0, .slice none y1.length 0], .int .i64 y2, .int .i64 y3] : Value)) hr0) hr1) hr2) hr3; exact hcc)
      · intro w hw b hb; exact hb.elim
      · intro w hw; exact Eq.mp (congrArg (fun y => SlO tInt _ w none 0 y) hr1) (SlO.nil tInt w)
    · simp only [bne_eq_false_iff_eq] at hc17
      exfalso; first | contradiction | omega | simp_all
end Go.Proofs.Ythecfjipaepcgaa
