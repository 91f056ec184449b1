/- The walks, printed by a program from the translation and a specification. -/
import Derived.Test.YtgkihbbeimhmbaaDoorTrFM3
import Derived.Test.YtgkihbbeimhmbaaDoorTrLaw2M6
import Derived.Test.YtgkihbbeimhmbaaDoorTrKM4
namespace Go.Proofs.YtgkihbbeimhmbaaDoor
open Go.Sx Go.RowKit
set_option maxHeartbeats 8000000 in
set_option maxRecDepth 100000 in
theorem lineNumber_ok (s : ByteArray) (hy1 : s.size ≤ 2000000000) : Fn0 Tryd.prog 23 [.string s] (fun _ => True) (.int .i64 (Trc.num s)) := by
  refine fn0 (nt := 44) (F0 := [(0, .string s)]) Tryd.func23 rfl Tryd.ntmps23 rfl rfl (fun w0 hpre => ?_)
  refine c_seq ?_
  refine c_region ?_
  refine o_pure (p_assign (v := .int .i64 0) rfl) rfl rfl rfl ?_
  refine o_nil ?_
  refine q_then ?_
  refine c_seq ?_
  refine c_region ?_
  refine o_pure (p_assign (v := .int .i64 0) rfl) rfl rfl rfl ?_
  refine o_nil ?_
  refine q_then ?_
  refine c_seq ?_
  refine c_seq ?_
  refine c_region ?_
  refine o_pure (p_assign (v := .int .i64 0) rfl) rfl rfl rfl ?_
  refine o_nil ?_
  refine q_then ?_
  refine c_block ?_
  refine c_loop (St := Int × Nat)
    (fun ⟨n, i⟩ => [(0, .string s), (3, .int .i64 n), (4, .int .i64 (i : Int))])
    (fun ⟨n, i⟩ => [base w0])
    (fun ⟨n, i⟩ => Trc.NI s n i)
    (fun ⟨n, i⟩ => s.size - i)
    (0, 0) ?_ (Sub.cons rfl (Sub.cons rfl (Sub.cons rfl (Sub.nil _)))) (fun _ hw => hw) ?_
  · exact Trc.NI.start s
  rintro ⟨n, i⟩ hI K hK1
  show SC _ _ Tryd.prog 44 w0 _ _ [(0, .string s), (3, .int .i64 n), (4, .int .i64 (i : Int))] [base w0]
  refine c_seq ?_
  refine c_seq ?_
  refine c_region ?_
  refine o_pure (p_move (v := .int .i64 (i : Int)) rfl) rfl rfl rfl ?_
  refine o_pure (p_move (v := .string s) rfl) rfl rfl rfl ?_
  refine o_pure (p_len_string rfl rfl Tryd.underlying9) rfl rfl rfl ?_
  refine o_pure (p_lt (p := (i : Int)) (q := (s.size : Int)) rfl rfl) rfl rfl rfl ?_
  refine o_nil ?_
  refine q_then ?_
  refine c_cond (b := decide ((i : Int) < (s.size : Int))) rfl (fun hc2 => ?_) (fun hc2 => ?_)
  · simp only [decide_eq_true_eq] at hc2
    have hnb := hI.bd
    have h7 := hI.i7
    refine c_skip ?_
    refine q_then ?_
    refine c_seq ?_
    refine c_block ?_
    refine c_seq ?_
    refine c_seq ?_
    refine c_region ?_
    refine o_pure (p_move (v := .string s) rfl) rfl rfl rfl ?_
    refine o_pure (p_move (v := .int .i64 (i : Int)) rfl) rfl rfl rfl ?_
    refine o_pure (p_indexStr (z := (i : Int)) (i := i) rfl rfl Tryd.underlying9 (by omega) (by omega)) rfl rfl rfl ?_
    refine o_pure (p_lt (p := ((byteAt s i).toNat : Int)) (q := 48) rfl rfl) rfl rfl rfl ?_
    refine o_pure (p_move (v := .bool (decide (((byteAt s i).toNat : Int) < 48))) rfl) rfl rfl rfl ?_
    refine o_or (p := 20) 5 (decide (57 < ((byteAt s i).toNat : Int))) ?_ ?_ ?_
    · intro hb3 hk
      simp only [decide_eq_false_iff_not, Int.not_lt] at hb3
      refine o_unguard 15 rfl rfl ?_
      refine o_pure (p_move (v := .string s) rfl) rfl rfl rfl ?_
      refine o_unguard 15 rfl rfl ?_
      refine o_pure (p_move (v := .int .i64 (i : Int)) rfl) rfl rfl rfl ?_
      refine o_unguard 15 rfl rfl ?_
      refine o_pure (p_indexStr (z := (i : Int)) (i := i) rfl rfl Tryd.underlying9 (by omega) (by omega)) rfl rfl rfl ?_
      refine o_unguard 15 rfl rfl ?_
      refine o_pure (p_gt (p := ((byteAt s i).toNat : Int)) (q := 57) rfl rfl) rfl rfl rfl ?_
      refine o_pure (p_pick_false (v := .bool (decide (57 < ((byteAt s i).toNat : Int)))) rfl rfl) rfl rfl rfl ?_
      exact o_sub (Sub.cons rfl (Sub.skip rfl (Sub.skip rfl (Sub.skip rfl (Sub.skip rfl (Sub.skip rfl (Sub.skip rfl (Sub.refl _)))))))) hk
    · intro hb3 hk
      refine o_guard_no rfl 15 rfl rfl rfl rfl rfl ?_
      refine o_guard_no rfl 15 rfl rfl rfl rfl rfl ?_
      refine o_guard_no rfl 15 rfl rfl rfl rfl rfl ?_
      refine o_guard_no rfl 15 rfl rfl rfl rfl rfl ?_
      refine o_pure (p_pick_true (u := .bool true) rfl rfl) rfl rfl rfl ?_
      exact o_sub (Sub.cons rfl (Sub.skip rfl (Sub.skip rfl (Sub.skip rfl (Sub.skip rfl (Sub.skip rfl (Sub.skip rfl (Sub.refl _)))))))) hk
    refine o_nil ?_
    refine q_then ?_
    refine c_cond (b := (decide (((byteAt s i).toNat : Int) < 48) || decide (57 < ((byteAt s i).toNat : Int)))) rfl (fun hc4 => ?_) (fun hc4 => ?_)
    · simp only [Bool.or_eq_true, decide_eq_true_eq] at hc4
      have hend := hI.bad (by omega) hc4
      refine c_seq ?_
      refine c_region ?_
      refine o_pure (p_assign (v := .int .i64 (-1)) rfl) rfl rfl rfl ?_
      refine o_nil ?_
      refine q_then ?_
      refine c_ret ?_
      refine q_then_ret (q_block_ret (q_then_ret (q_then_ret (q_block_ret (q_then_ret ?_)))))
      have hr0 : ((-1) : Int) = (Trc.num s) := by
        exact hend
      refine q_end0 (v := .int .i64 (-1)) (rt1 rfl (r_tmp rfl)) (i := 0) rfl ?_
      exact (by have hcc := congrArg (fun (y0 : Int) => (.int .i64 y0 : Value)) hr0; exact hcc)
    · simp only [Bool.or_eq_false_iff, decide_eq_false_iff_not, Int.not_lt] at hc4
      have hdg := hc4
      have hdv := Trc.dig_eq hdg.1 hdg.2
      refine c_skip ?_
      refine q_then ?_
      refine c_seq ?_
      refine c_region ?_
      refine o_pure (p_move (v := .int .i64 n) rfl) rfl rfl rfl ?_
      refine o_pure (p_mulb (p := 10) (q := n) rfl rfl (by omega)) rfl rfl rfl ?_
      refine o_pure (p_move (v := .string s) rfl) rfl rfl rfl ?_
      refine o_pure (p_move (v := .int .i64 (i : Int)) rfl) rfl rfl rfl ?_
      refine o_pure (p_indexStr (z := (i : Int)) (i := i) rfl rfl Tryd.underlying9 (by omega) (by omega)) rfl rfl rfl ?_
      refine o_pure (p_sub (p := ((byteAt s i).toNat : Int)) (q := 48) rfl rfl) rfl rfl rfl ?_
      refine o_pure (p_conv (z := (IntKind.u8.wrap (((byteAt s i).toNat : Int) - 48))) rfl Tryd.underlying5 Tryd.underlying3) rfl rfl rfl ?_
      refine o_pure (p_addb (p := (10 * n)) (q := (IntKind.i64.wrap (IntKind.u8.wrap (((byteAt s i).toNat : Int) - 48)))) rfl rfl (by omega)) rfl rfl rfl ?_
      refine o_pure (p_assign (v := .int .i64 ((10 * n) + (IntKind.i64.wrap (IntKind.u8.wrap (((byteAt s i).toNat : Int) - 48))))) rfl) rfl rfl rfl ?_
      refine o_nil ?_
      refine q_then ?_
      refine c_seq ?_
      refine c_region ?_
      refine o_pure (p_move (v := .int .i64 (i : Int)) rfl) rfl rfl rfl ?_
      refine o_pure (p_gt (p := (i : Int)) (q := 6) rfl rfl) rfl rfl rfl ?_
      refine o_nil ?_
      refine q_then ?_
      refine c_cond (b := decide (6 < (i : Int))) rfl (fun hc5 => ?_) (fun hc5 => ?_)
      · simp only [decide_eq_true_eq] at hc5
        have hend := hI.long (by omega) hc5
        refine c_seq ?_
        refine c_region ?_
        refine o_pure (p_assign (v := .int .i64 (-1)) rfl) rfl rfl rfl ?_
        refine o_nil ?_
        refine q_then ?_
        refine c_ret ?_
        refine q_block_ret (q_then_ret (q_then_ret (q_block_ret (q_then_ret ?_))))
        have hr0 : ((-1) : Int) = (Trc.num s) := by
          exact hend
        refine q_end0 (v := .int .i64 (-1)) (rt1 rfl (r_tmp rfl)) (i := 0) rfl ?_
        exact (by have hcc := congrArg (fun (y0 : Int) => (.int .i64 y0 : Value)) hr0; exact hcc)
      · simp only [decide_eq_false_iff_not, Int.not_lt] at hc5
        refine c_skip ?_
        refine q_block_normal (q_then ?_)
        refine c_region ?_
        refine o_pure (p_move (v := .int .i64 (i : Int)) rfl) rfl rfl rfl ?_
        refine o_pure (p_addb (p := (i : Int)) (q := 1) rfl rfl (by omega)) rfl rfl rfl ?_
        refine o_pure (p_assign (v := .int .i64 ((i : Int) + 1)) rfl) rfl rfl rfl ?_
        refine o_nil ?_
        refine q_round hK1 (((10 * n) + (IntKind.i64.wrap (IntKind.u8.wrap (((byteAt s i).toNat : Int) - 48)))), i + 1) ?_ ?_ ?_ ?_
        · clear hK1
          exact hI.next (by omega) (by omega) (by omega) (by omega)
        · (try dsimp only); omega
        · exact Sub.cons rfl (Sub.cons rfl (Sub.cons rfl (Sub.nil _)))
        · exact fun _ hw => HeapIs.pick hw [0] (by decide) rfl
  · simp only [decide_eq_false_iff_not, Int.not_lt] at hc2
    refine c_exit ?_
    refine q_then_exit (q_then_exit (q_block_exit (q_then ?_)))
    refine c_seq ?_
    refine c_seq ?_
    refine c_region ?_
    refine o_pure (p_move (v := .string s) rfl) rfl rfl rfl ?_
    refine o_pure (p_eqStr (s := s) (t := (ByteArray.mk #[])) rfl rfl) rfl rfl rfl ?_
    refine o_pure (p_move (v := .bool (decide (s = (ByteArray.mk #[])))) rfl) rfl rfl rfl ?_
    refine o_or (p := 42) 9 (decide (1 < (s.size : Int)) && (((byteAt s 0).toNat : Int) == 48)) ?_ ?_ ?_
    · intro hb6 hk
      simp only [decide_eq_false_iff_not] at hb6
      refine o_unguard 33 rfl rfl ?_
      refine o_pure (p_move (v := .string s) rfl) rfl rfl rfl ?_
      refine o_unguard 33 rfl rfl ?_
      refine o_pure (p_len_string rfl rfl Tryd.underlying9) rfl rfl rfl ?_
      refine o_unguard 33 rfl rfl ?_
      refine o_pure (p_gt (p := (s.size : Int)) (q := 1) rfl rfl) rfl rfl rfl ?_
      refine o_unguard 33 rfl rfl ?_
      refine o_pure (p_move (v := .bool (decide (1 < (s.size : Int)))) rfl) rfl rfl rfl ?_
      refine o_and (p := 41) 4 (((byteAt s 0).toNat : Int) == 48) ?_ ?_ ?_
      · intro hb7 hk
        simp only [decide_eq_true_eq] at hb7
        refine o_unguard 37 rfl rfl ?_
        refine o_pure (p_move (v := .string s) rfl) rfl rfl rfl ?_
        refine o_unguard 37 rfl rfl ?_
        refine o_pure (p_indexStr (z := 0) (i := 0) rfl rfl Tryd.underlying9 rfl (by omega)) rfl rfl rfl ?_
        refine o_unguard 37 rfl rfl ?_
        refine o_pure (p_eq (p := ((byteAt s 0).toNat : Int)) (q := 48) rfl rfl) rfl rfl rfl ?_
        refine o_unguard 33 rfl rfl ?_
        refine o_pure (p_pick_true (u := .bool (((byteAt s 0).toNat : Int) == 48)) rfl rfl) rfl rfl rfl ?_
        exact o_sub (Sub.cons rfl (Sub.skip rfl (Sub.skip rfl (Sub.skip rfl (Sub.skip rfl (Sub.skip rfl (Sub.refl _))))))) hk
      · intro hb7 hk
        refine o_guard_no rfl 37 rfl rfl rfl rfl rfl ?_
        refine o_guard_no rfl 37 rfl rfl rfl rfl rfl ?_
        refine o_guard_no rfl 37 rfl rfl rfl rfl rfl ?_
        refine o_unguard 33 rfl rfl ?_
        refine o_pure (p_pick_false (v := .bool false) rfl rfl) rfl rfl rfl ?_
        exact o_sub (Sub.cons rfl (Sub.skip rfl (Sub.skip rfl (Sub.skip rfl (Sub.skip rfl (Sub.skip rfl (Sub.refl _))))))) hk
      refine o_pure (p_pick_false (v := .bool (decide (1 < (s.size : Int)) && (((byteAt s 0).toNat : Int) == 48))) rfl rfl) rfl rfl rfl ?_
      exact o_sub (Sub.cons rfl (Sub.skip rfl (Sub.skip rfl (Sub.skip rfl (Sub.skip rfl (Sub.skip rfl (Sub.skip rfl (Sub.refl _)))))))) hk
    · intro hb6 hk
      refine o_guard_no rfl 33 rfl rfl rfl rfl rfl ?_
      refine o_guard_no rfl 33 rfl rfl rfl rfl rfl ?_
      refine o_guard_no rfl 33 rfl rfl rfl rfl rfl ?_
      refine o_guard_no rfl 33 rfl rfl rfl rfl rfl ?_
      refine o_guard_no rfl 37 rfl rfl rfl rfl rfl ?_
      refine o_guard_no rfl 37 rfl rfl rfl rfl rfl ?_
      refine o_guard_no rfl 37 rfl rfl rfl rfl rfl ?_
      refine o_guard_no rfl 33 rfl rfl rfl rfl rfl ?_
      refine o_pure (p_pick_true (u := .bool true) rfl rfl) rfl rfl rfl ?_
      exact o_sub (Sub.cons rfl (Sub.skip rfl (Sub.skip rfl (Sub.skip rfl (Sub.skip rfl (Sub.skip rfl (Sub.skip rfl (Sub.skip rfl (Sub.skip rfl (Sub.skip rfl (Sub.skip rfl (Sub.refl _)))))))))))) hk
    refine o_nil ?_
    refine q_then ?_
    refine c_cond (b := (decide (s = (ByteArray.mk #[])) || (decide (1 < (s.size : Int)) && (((byteAt s 0).toNat : Int) == 48)))) rfl (fun hc8 => ?_) (fun hc8 => ?_)
    · simp only [Bool.or_eq_true, decide_eq_true_eq, Bool.and_eq_true, beq_iff_eq] at hc8
      have hend := Trc.NI.bad2 hc8
      refine c_seq ?_
      refine c_region ?_
      refine o_pure (p_assign (v := .int .i64 (-1)) rfl) rfl rfl rfl ?_
      refine o_nil ?_
      refine q_then ?_
      refine c_ret ?_
      refine q_then_ret ?_
      have hr0 : ((-1) : Int) = (Trc.num s) := by
        exact hend
      refine q_end0 (v := .int .i64 (-1)) (rt1 rfl (r_tmp rfl)) (i := 0) rfl ?_
      exact (by have hcc := congrArg (fun (y0 : Int) => (.int .i64 y0 : Value)) hr0; exact hcc)
    · simp only [Bool.or_eq_false_iff, decide_eq_false_iff_not, Bool.and_eq_false_iff, Int.not_lt, beq_eq_false_iff_ne, ne_eq] at hc8
      have hend := hI.done (by omega) hc8
      refine c_skip ?_
      refine q_then ?_
      refine c_seq ?_
      refine c_region ?_
      refine o_pure (p_move (v := .int .i64 n) rfl) rfl rfl rfl ?_
      refine o_pure (p_assign (v := .int .i64 n) rfl) rfl rfl rfl ?_
      refine o_nil ?_
      refine q_then ?_
      refine c_ret ?_
      have hr0 : (n : Int) = (Trc.num s) := by
        exact hend
      refine q_end0 (v := .int .i64 n) (rt1 rfl (r_tmp rfl)) (i := 0) rfl ?_
      exact (by have hcc := congrArg (fun (y0 : Int) => (.int .i64 y0 : Value)) hr0; exact hcc)

set_option maxHeartbeats 8000000 in
set_option maxRecDepth 100000 in
theorem lineDigits_step (nrec : Nat) (IH : ∀ (n : Int) (hy1 : 0 ≤ n ∧ n ≤ 9999999), n.toNat < nrec → Fn0 Tryd.prog 24 [.int .i64 n] (fun _ => True) (.string (Trc.decS n))) (n : Int) (hy1 : 0 ≤ n ∧ n ≤ 9999999) (hrec : n.toNat = nrec) : Fn0 Tryd.prog 24 [.int .i64 n] (fun _ => True) (.string (Trc.decS n)) := by
  refine fn0 (nt := 16) (F0 := [(0, .int .i64 n)]) Tryd.func24 rfl Tryd.ntmps24 rfl rfl (fun w0 hpre => ?_)
  refine c_seq ?_
  refine c_region ?_
  refine o_pure (p_assign (v := .string (ByteArray.mk #[])) rfl) rfl rfl rfl ?_
  refine o_nil ?_
  refine q_then ?_
  refine c_seq ?_
  refine c_seq ?_
  refine c_region ?_
  refine o_pure (p_move (v := .int .i64 n) rfl) rfl rfl rfl ?_
  refine o_pure (p_lt (p := n) (q := 10) rfl rfl) rfl rfl rfl ?_
  refine o_nil ?_
  refine q_then ?_
  refine c_cond (b := decide (n < 10)) rfl (fun hc1 => ?_) (fun hc1 => ?_)
  · simp only [decide_eq_true_eq] at hc1
    refine c_seq ?_
    refine c_region ?_
    refine o_pure (p_move (v := .int .i64 n) rfl) rfl rfl rfl ?_
    refine o_pure (p_move (v := .int .i64 n) rfl) rfl rfl rfl ?_
    refine o_pure (p_addb (p := n) (q := 1) rfl rfl (by omega)) rfl rfl rfl ?_
    refine o_pure (p_sliceStrLH (s := (ByteArray.mk #[48, 49, 50, 51, 52, 53, 54, 55, 56, 57])) (l := n) (h := (n + 1)) rfl rfl rfl Tryd.underlying9 (by first | omega | (show _ ≤ (10 : Int); omega)) (by first | omega | (show _ ≤ (10 : Int); omega)) (by first | omega | (show _ ≤ (10 : Int); omega))) rfl rfl rfl ?_
    refine o_pure (p_assign (v := .string ((ByteArray.mk #[48, 49, 50, 51, 52, 53, 54, 55, 56, 57]).extract n.toNat ((n + 1).toNat))) rfl) rfl rfl rfl ?_
    refine o_nil ?_
    refine q_then ?_
    refine c_ret ?_
    refine q_then_ret ?_
    have hr0 : (((ByteArray.mk #[48, 49, 50, 51, 52, 53, 54, 55, 56, 57]).extract n.toNat ((n + 1).toNat)) : ByteArray) = (Trc.decS n) := by
      first | exact Trc.decS_small hy1.1 (by omega) | exact Trc.decS_big hy1.1 (by omega)
    refine q_end0 (v := .string ((ByteArray.mk #[48, 49, 50, 51, 52, 53, 54, 55, 56, 57]).extract n.toNat ((n + 1).toNat))) (rt1 rfl (r_tmp rfl)) (i := 0) rfl ?_
    exact (by have hcc := congrArg (fun (y0 : ByteArray) => (.string y0 : Value)) hr0; exact hcc)
  · simp only [decide_eq_false_iff_not, Int.not_lt] at hc1
    refine c_skip ?_
    refine q_then ?_
    refine c_seq ?_
    refine c_region ?_
    refine o_pure (p_move (v := .int .i64 n) rfl) rfl rfl rfl ?_
    refine o_pure (p_quob (p := n) (q := 10) rfl rfl (by decide) (by have z9 := Trc.tdiv_bd hy1; omega)) rfl rfl rfl ?_
    refine o_call0 (v := .string (Trc.decS (n.tdiv 10))) rfl (IH (n.tdiv 10) (by first | assumption | omega | exact Trc.tdiv_bd hy1 | exact Trc.tmod_bd hy1) (by first | omega | exact Trc.tdiv_lt hy1 (by omega) hrec | exact Trc.tmod_lt hy1 (by omega) hrec)) hf24 (fun _ _ => trivial) rfl ?_
    refine o_pure (p_move (v := .int .i64 n) rfl) rfl rfl rfl ?_
    refine o_pure (p_rem (p := n) (q := 10) rfl rfl (by decide)) rfl rfl rfl ?_
    refine o_call0 (v := .string (Trc.decS (n.tmod 10))) rfl (IH (n.tmod 10) (by first | assumption | omega | exact Trc.tdiv_bd hy1 | exact Trc.tmod_bd hy1) (by first | omega | exact Trc.tdiv_lt hy1 (by omega) hrec | exact Trc.tmod_lt hy1 (by omega) hrec)) hf24 (fun _ _ => trivial) rfl ?_
    refine o_pure (p_addStr (s := (Trc.decS (n.tdiv 10))) (t := (Trc.decS (n.tmod 10))) rfl rfl (by have z1 := Trc.decS_sz (n := n.tdiv 10) (by have := (Trc.tdiv_bd hy1).2; omega); have z2 := Trc.decS_sz (n := n.tmod 10) (by have := (Trc.tmod_bd hy1).2; omega); omega)) rfl rfl rfl ?_
    refine o_pure (p_assign (v := .string ((Trc.decS (n.tdiv 10)) ++ (Trc.decS (n.tmod 10)))) rfl) rfl rfl rfl ?_
    refine o_nil ?_
    refine q_then ?_
    refine c_ret ?_
    have hr0 : (((Trc.decS (n.tdiv 10)) ++ (Trc.decS (n.tmod 10))) : ByteArray) = (Trc.decS n) := by
      first | exact Trc.decS_small hy1.1 (by omega) | exact Trc.decS_big hy1.1 (by omega)
    refine q_end0 (v := .string ((Trc.decS (n.tdiv 10)) ++ (Trc.decS (n.tmod 10)))) (rt1 rfl (r_tmp rfl)) (i := 0) rfl ?_
    exact (by have hcc := congrArg (fun (y0 : ByteArray) => (.string y0 : Value)) hr0; exact hcc)
theorem lineDigits_ok (n : Int) (hy1 : 0 ≤ n ∧ n ≤ 9999999) : Fn0 Tryd.prog 24 [.int .i64 n] (fun _ => True) (.string (Trc.decS n)) := by
  have key : ∀ (nr : Nat) (n : Int) (hy1 : 0 ≤ n ∧ n ≤ 9999999), n.toNat = nr → Fn0 Tryd.prog 24 [.int .i64 n] (fun _ => True) (.string (Trc.decS n)) := fun nr => Nat.strongRecOn nr (fun nr ihr => fun n hy1 hnr => lineDigits_step nr (fun n hy1 hmr => ihr _ hmr n hy1 rfl) n hy1 hnr)
  exact key _ n hy1 rfl

set_option maxHeartbeats 8000000 in
set_option maxRecDepth 100000 in
theorem lineRead_ok (s : ByteArray) : FnM Tryd.prog 11 [.string s] (fun _ => True) (Option Addr × Nat) (fun p => .tuple #[.slice p.1 ((Trc.parse s).1).length p.2, .int .i64 ((Trc.parse s).2)]) (fun p S w => SlO tInt S w p.1 p.2 ((Trc.parse s).1)) := by
  refine fnM (nt := 156) (F0 := [(0, .string s)]) Tryd.func11 rfl Tryd.ntmps11 rfl rfl (fun w0 hpre => ?_)
  refine c_seq ?_
  refine c_region ?_
  refine o_pure (p_assign (v := .slice none 0 0) rfl) rfl rfl rfl ?_
  refine o_pure (p_assign (v := .int .i64 0) rfl) rfl rfl rfl ?_
  refine o_nil ?_
  refine q_then ?_
  refine c_seq ?_
  refine c_seq ?_
  refine c_region ?_
  refine o_pure (p_move (v := .string s) rfl) rfl rfl rfl ?_
  refine o_pure (p_len_string rfl rfl Tryd.underlying9) rfl rfl rfl ?_
  refine o_pure (p_gt (p := (s.size : Int)) (q := 2000) rfl rfl) rfl rfl rfl ?_
  refine o_nil ?_
  refine q_then ?_
  refine c_cond (b := decide (2000 < (s.size : Int))) rfl (fun hc1 => ?_) (fun hc1 => ?_)
  · simp only [decide_eq_true_eq] at hc1
    have hend := Trc.parse_big hc1
    refine c_seq ?_
    refine c_region ?_
    refine o_pure (p_assign (v := .slice none 0 0) rfl) rfl rfl rfl ?_
    refine o_pure (p_assign (v := .int .i64 2) rfl) rfl rfl rfl ?_
    refine o_nil ?_
    refine q_then ?_
    refine c_ret ?_
    refine q_then_ret ?_
    have hr0 : ([] : List Int) = ((Trc.parse s).1) := by
      first | exact hend.1 | exact hend.2
    have hr1 : (2 : Int) = ((Trc.parse s).2) := by
      first | exact hend.1 | exact hend.2
    refine q_endM (p := (none, 0)) (fun _ => False) (rt2 rfl (r_tmp rfl) (r_tmp rfl)) (i := 0) rfl ?_ ?_ ?_
    · exact (by have hcc := congr (congrArg (fun (y0 : List Int) (y1 : Int) => (.tuple #[.slice none y0.length 0, .int .i64 y1] : Value)) hr0) hr1; exact hcc)
    · intro w hw b hb; exact hb.elim
    · intro w hw; exact Eq.mp (congrArg (fun y => SlO tInt _ w none 0 y) hr0) (SlO.nil tInt w)
  · simp only [decide_eq_false_iff_not, Int.not_lt] at hc1
    have hsz := hc1
    refine c_skip ?_
    refine q_then ?_
    refine c_seq ?_
    refine c_seq ?_
    refine c_region ?_
    refine o_pure (p_move (v := .string s) rfl) rfl rfl rfl ?_
    refine o_pure (p_eqStr (s := s) (t := (ByteArray.mk #[])) rfl rfl) rfl rfl rfl ?_
    refine o_nil ?_
    refine q_then ?_
    refine c_cond (b := decide (s = (ByteArray.mk #[]))) rfl (fun hc2 => ?_) (fun hc2 => ?_)
    · simp only [decide_eq_true_eq] at hc2
      have hend := Trc.parse_none hc2
      refine c_seq ?_
      refine c_region ?_
      refine o_pure (p_assign (v := .slice none 0 0) rfl) rfl rfl rfl ?_
      refine o_pure (p_assign (v := .int .i64 0) rfl) rfl rfl rfl ?_
      refine o_nil ?_
      refine q_then ?_
      refine c_ret ?_
      refine q_then_ret ?_
      have hr0 : ([] : List Int) = ((Trc.parse s).1) := by
        first | exact hend.1 | exact hend.2
      have hr1 : (0 : Int) = ((Trc.parse s).2) := by
        first | exact hend.1 | exact hend.2
      refine q_endM (p := (none, 0)) (fun _ => False) (rt2 rfl (r_tmp rfl) (r_tmp rfl)) (i := 0) rfl ?_ ?_ ?_
      · exact (by have hcc := congr (congrArg (fun (y0 : List Int) (y1 : Int) => (.tuple #[.slice none y0.length 0, .int .i64 y1] : Value)) hr0) hr1; exact hcc)
      · intro w hw b hb; exact hb.elim
      · intro w hw; exact Eq.mp (congrArg (fun y => SlO tInt _ w none 0 y) hr0) (SlO.nil tInt w)
    · simp only [decide_eq_false_iff_not] at hc2
      have hne := hc2
      refine c_skip ?_
      refine q_then ?_
      refine c_seq ?_
      refine c_region ?_
      refine o_pure (p_assign (v := .slice none 0 0) rfl) rfl rfl rfl ?_
      refine o_nil ?_
      refine q_then ?_
      refine c_seq ?_
      refine c_region ?_
      refine o_pure (p_assign (v := .int .i64 0) rfl) rfl rfl rfl ?_
      refine o_nil ?_
      refine q_then ?_
      refine c_seq ?_
      refine c_seq ?_
      refine c_region ?_
      refine o_pure (p_assign (v := .int .i64 0) rfl) rfl rfl rfl ?_
      refine o_nil ?_
      refine q_then ?_
      refine c_block ?_
      refine c_ownNil tInt ?_
      refine c_loop (St := List Int × Option Addr × Nat × (Nat → Prop) × Int × Nat)
        (fun ⟨out, aout, cout, Sout, fr, i⟩ => [(0, .string s), (4, .slice aout out.length cout), (5, .int .i64 fr), (6, .int .i64 (i : Int))])
        (fun ⟨out, aout, cout, Sout, fr, i⟩ => [own tInt Sout aout cout out, base w0])
        (fun ⟨out, aout, cout, Sout, fr, i⟩ => Trc.LI s out fr i)
        (fun ⟨out, aout, cout, Sout, fr, i⟩ => s.size + 1 - i)
        ([], none, 0, (fun _ => False), 0, 0) ?_ (Sub.cons rfl (Sub.cons rfl (Sub.cons rfl (Sub.cons rfl (Sub.nil _))))) (fun _ hw => hw) ?_
      · exact Trc.LI.start hsz hne
      rintro ⟨out, aout, cout, Sout, fr, i⟩ hI K hK4
      have hf0 := hI.f0
      have hfi := hI.fi
      have hle := hI.le
      have hlo := hI.len
      show SC _ _ Tryd.prog 156 w0 _ _ [(0, .string s), (4, .slice aout out.length cout), (5, .int .i64 fr), (6, .int .i64 (i : Int))] [own tInt Sout aout cout out, base w0]
      refine c_seq ?_
      refine c_seq ?_
      refine c_region ?_
      refine o_pure (p_move (v := .int .i64 (i : Int)) rfl) rfl rfl rfl ?_
      refine o_pure (p_move (v := .string s) rfl) rfl rfl rfl ?_
      refine o_pure (p_len_string rfl rfl Tryd.underlying9) rfl rfl rfl ?_
      refine o_pure (p_le (p := (i : Int)) (q := (s.size : Int)) rfl rfl) rfl rfl rfl ?_
      refine o_nil ?_
      refine q_then ?_
      refine c_cond (b := decide ((i : Int) ≤ (s.size : Int))) rfl (fun hc5 => ?_) (fun hc5 => ?_)
      · simp only [decide_eq_true_eq] at hc5
        have hil := hc5
        refine c_skip ?_
        refine q_then ?_
        refine c_seq ?_
        refine c_block ?_
        refine c_seq ?_
        refine c_seq ?_
        refine c_region ?_
        refine o_pure (p_move (v := .int .i64 (i : Int)) rfl) rfl rfl rfl ?_
        refine o_pure (p_move (v := .string s) rfl) rfl rfl rfl ?_
        refine o_pure (p_len_string rfl rfl Tryd.underlying9) rfl rfl rfl ?_
        refine o_pure (p_lt (p := (i : Int)) (q := (s.size : Int)) rfl rfl) rfl rfl rfl ?_
        refine o_pure (p_move (v := .bool (decide ((i : Int) < (s.size : Int)))) rfl) rfl rfl rfl ?_
        refine o_and (p := 36) 5 (((byteAt s i).toNat : Int) != 32) ?_ ?_ ?_
        · intro hb6 hk
          simp only [decide_eq_true_eq] at hb6
          refine o_unguard 31 rfl rfl ?_
          refine o_pure (p_move (v := .string s) rfl) rfl rfl rfl ?_
          refine o_unguard 31 rfl rfl ?_
          refine o_pure (p_move (v := .int .i64 (i : Int)) rfl) rfl rfl rfl ?_
          refine o_unguard 31 rfl rfl ?_
          refine o_pure (p_indexStr (z := (i : Int)) (i := i) rfl rfl Tryd.underlying9 (by omega) (by omega)) rfl rfl rfl ?_
          refine o_unguard 31 rfl rfl ?_
          refine o_pure (p_ne (p := ((byteAt s i).toNat : Int)) (q := 32) rfl rfl) rfl rfl rfl ?_
          refine o_pure (p_pick_true (u := .bool (((byteAt s i).toNat : Int) != 32)) rfl rfl) rfl rfl rfl ?_
          exact o_sub (Sub.cons rfl (Sub.skip rfl (Sub.skip rfl (Sub.skip rfl (Sub.skip rfl (Sub.skip rfl (Sub.skip rfl (Sub.refl _)))))))) hk
        · intro hb6 hk
          refine o_guard_no rfl 31 rfl rfl rfl rfl rfl ?_
          refine o_guard_no rfl 31 rfl rfl rfl rfl rfl ?_
          refine o_guard_no rfl 31 rfl rfl rfl rfl rfl ?_
          refine o_guard_no rfl 31 rfl rfl rfl rfl rfl ?_
          refine o_pure (p_pick_false (v := .bool false) rfl rfl) rfl rfl rfl ?_
          exact o_sub (Sub.cons rfl (Sub.skip rfl (Sub.skip rfl (Sub.skip rfl (Sub.skip rfl (Sub.skip rfl (Sub.skip rfl (Sub.refl _)))))))) hk
        refine o_nil ?_
        refine q_then ?_
        refine c_cond (b := (decide ((i : Int) < (s.size : Int)) && (((byteAt s i).toNat : Int) != 32))) rfl (fun hc7 => ?_) (fun hc7 => ?_)
        · simp only [Bool.and_eq_true, decide_eq_true_eq, bne_iff_ne, ne_eq] at hc7
          have hsk := hc7
          refine c_exit ?_
          refine q_then_exit (q_block_exit (q_then ?_))
          refine c_region ?_
          refine o_pure (p_move (v := .int .i64 (i : Int)) rfl) rfl rfl rfl ?_
          refine o_pure (p_addb (p := (i : Int)) (q := 1) rfl rfl (by omega)) rfl rfl rfl ?_
          refine o_pure (p_assign (v := .int .i64 ((i : Int) + 1)) rfl) rfl rfl rfl ?_
          refine o_nil ?_
          refine q_round hK4 (out, aout, cout, Sout, fr, i + 1) ?_ ?_ ?_ ?_
          · clear hK4
            first | exact hI.skip hsk | exact hI.next hil hsp he0 hm2 (by omega) hA (by omega)
          · (try dsimp only); omega
          · exact Sub.cons rfl (Sub.cons rfl (Sub.cons rfl (Sub.cons rfl (Sub.nil _))))
          · exact fun _ hw => HeapIs.pick hw [0, 1] (by decide) rfl
        · simp only [Bool.and_eq_false_iff, decide_eq_false_iff_not, Int.not_lt, bne_eq_false_iff_eq] at hc7
          have hsp := hc7
          have hes := Trc.ext_size s (fr := fr) (i := i) hf0 (by omega) (by omega)
          refine c_skip ?_
          refine q_then ?_
          refine c_seq ?_
          refine c_region ?_
          refine o_pure (p_move (v := .string s) rfl) rfl rfl rfl ?_
          refine o_pure (p_move (v := .int .i64 fr) rfl) rfl rfl rfl ?_
          refine o_pure (p_move (v := .int .i64 (i : Int)) rfl) rfl rfl rfl ?_
          refine o_pure (p_sliceStrLH (s := s) (l := fr) (h := (i : Int)) rfl rfl rfl Tryd.underlying9 (by omega) (by omega) (by omega)) rfl rfl rfl ?_
          refine o_pure (p_assign (v := .string (s.extract fr.toNat i)) rfl) rfl rfl rfl ?_
          refine o_nil ?_
          refine q_then ?_
          refine c_seq ?_
          refine c_region ?_
          refine o_pure (p_move (v := .int .i64 (i : Int)) rfl) rfl rfl rfl ?_
          refine o_pure (p_addb (p := (i : Int)) (q := 1) rfl rfl (by omega)) rfl rfl rfl ?_
          refine o_pure (p_assign (v := .int .i64 ((i : Int) + 1)) rfl) rfl rfl rfl ?_
          refine o_nil ?_
          refine q_then ?_
          refine c_seq ?_
          refine c_region ?_
          refine o_pure (p_move (v := .string (s.extract fr.toNat i)) rfl) rfl rfl rfl ?_
          refine o_pure (p_len_string rfl rfl Tryd.underlying9) rfl rfl rfl ?_
          refine o_pure (p_assign (v := .int .i64 ((s.extract fr.toNat i).size : Int)) rfl) rfl rfl rfl ?_
          refine o_nil ?_
          refine q_then ?_
          refine c_seq ?_
          refine c_seq ?_
          refine c_region ?_
          refine o_pure (p_move (v := .string (s.extract fr.toNat i)) rfl) rfl rfl rfl ?_
          refine o_pure (p_len_string rfl rfl Tryd.underlying9) rfl rfl rfl ?_
          refine o_pure (p_subb (p := ((s.extract fr.toNat i).size : Int)) (q := 1) rfl rfl (by omega)) rfl rfl rfl ?_
          refine o_pure (p_assign (v := .int .i64 (((s.extract fr.toNat i).size : Int) - 1)) rfl) rfl rfl rfl ?_
          refine o_nil ?_
          refine q_then ?_
          refine c_block ?_
          refine c_loop (St := Int × Int)
            (fun ⟨cut, k⟩ => [(0, .string s), (4, .slice aout out.length cout), (5, .int .i64 ((i : Int) + 1)), (6, .int .i64 (i : Int)), (7, .string (s.extract fr.toNat i)), (8, .int .i64 cut), (9, .int .i64 k)])
            (fun ⟨cut, k⟩ => [own tInt Sout aout cout out, base w0])
            (fun ⟨cut, k⟩ => Trc.KI (s.extract fr.toNat i) cut k)
            (fun ⟨cut, k⟩ => (k + 1).toNat)
            (((s.extract fr.toNat i).size : Int), (((s.extract fr.toNat i).size : Int) - 1)) ?_ (Sub.cons rfl (Sub.cons rfl (Sub.cons rfl (Sub.cons rfl (Sub.cons rfl (Sub.cons rfl (Sub.cons rfl (Sub.nil _)))))))) (fun _ hw => hw) ?_
          · exact Trc.KI.start _
          rintro ⟨cut, k⟩ hK_ K hK8
          show SC _ _ Tryd.prog 156 w0 _ _ [(0, .string s), (4, .slice aout out.length cout), (5, .int .i64 ((i : Int) + 1)), (6, .int .i64 (i : Int)), (7, .string (s.extract fr.toNat i)), (8, .int .i64 cut), (9, .int .i64 k)] [own tInt Sout aout cout out, base w0]
          refine c_seq ?_
          refine c_seq ?_
          refine c_region ?_
          refine o_pure (p_move (v := .int .i64 k) rfl) rfl rfl rfl ?_
          refine o_pure (p_ge (p := k) (q := 0) rfl rfl) rfl rfl rfl ?_
          refine o_nil ?_
          refine q_then ?_
          refine c_cond (b := decide (0 ≤ k)) rfl (fun hc9 => ?_) (fun hc9 => ?_)
          · simp only [decide_eq_true_eq] at hc9
            have hk0 := hc9
            have hkc := hK_.kc
            have hkh := hK_.hi
            refine c_skip ?_
            refine q_then ?_
            refine c_seq ?_
            refine c_block ?_
            refine c_seq ?_
            refine c_region ?_
            refine o_pure (p_move (v := .string (s.extract fr.toNat i)) rfl) rfl rfl rfl ?_
            refine o_pure (p_move (v := .int .i64 k) rfl) rfl rfl rfl ?_
            refine o_pure (p_indexStr (z := k) (i := k.toNat) rfl rfl Tryd.underlying9 (by omega) (by omega)) rfl rfl rfl ?_
            refine o_pure (p_eq (p := ((byteAt (s.extract fr.toNat i) k.toNat).toNat : Int)) (q := 42) rfl rfl) rfl rfl rfl ?_
            refine o_pure (p_move (v := .bool (((byteAt (s.extract fr.toNat i) k.toNat).toNat : Int) == 42)) rfl) rfl rfl rfl ?_
            refine o_or (p := 61) 5 (((byteAt (s.extract fr.toNat i) k.toNat).toNat : Int) == 45) ?_ ?_ ?_
            · intro hb10 hk
              simp only [beq_eq_false_iff_ne, ne_eq] at hb10
              refine o_unguard 56 rfl rfl ?_
              refine o_pure (p_move (v := .string (s.extract fr.toNat i)) rfl) rfl rfl rfl ?_
              refine o_unguard 56 rfl rfl ?_
              refine o_pure (p_move (v := .int .i64 k) rfl) rfl rfl rfl ?_
              refine o_unguard 56 rfl rfl ?_
              refine o_pure (p_indexStr (z := k) (i := k.toNat) rfl rfl Tryd.underlying9 (by omega) (by omega)) rfl rfl rfl ?_
              refine o_unguard 56 rfl rfl ?_
              refine o_pure (p_eq (p := ((byteAt (s.extract fr.toNat i) k.toNat).toNat : Int)) (q := 45) rfl rfl) rfl rfl rfl ?_
              refine o_pure (p_pick_false (v := .bool (((byteAt (s.extract fr.toNat i) k.toNat).toNat : Int) == 45)) rfl rfl) rfl rfl rfl ?_
              exact o_sub (Sub.cons rfl (Sub.skip rfl (Sub.skip rfl (Sub.skip rfl (Sub.skip rfl (Sub.skip rfl (Sub.skip rfl (Sub.refl _)))))))) hk
            · intro hb10 hk
              refine o_guard_no rfl 56 rfl rfl rfl rfl rfl ?_
              refine o_guard_no rfl 56 rfl rfl rfl rfl rfl ?_
              refine o_guard_no rfl 56 rfl rfl rfl rfl rfl ?_
              refine o_guard_no rfl 56 rfl rfl rfl rfl rfl ?_
              refine o_pure (p_pick_true (u := .bool true) rfl rfl) rfl rfl rfl ?_
              exact o_sub (Sub.cons rfl (Sub.skip rfl (Sub.skip rfl (Sub.skip rfl (Sub.skip rfl (Sub.skip rfl (Sub.skip rfl (Sub.refl _)))))))) hk
            refine o_nil ?_
            refine q_then ?_
            refine c_cond (b := ((((byteAt (s.extract fr.toNat i) k.toNat).toNat : Int) == 42) || (((byteAt (s.extract fr.toNat i) k.toNat).toNat : Int) == 45))) rfl (fun hc11 => ?_) (fun hc11 => ?_)
            · simp only [Bool.or_eq_true, beq_iff_eq] at hc11
              refine c_region ?_
              refine o_pure (p_move (v := .int .i64 k) rfl) rfl rfl rfl ?_
              refine o_pure (p_assign (v := .int .i64 k) rfl) rfl rfl rfl ?_
              refine o_nil ?_
              refine q_block_normal (q_then ?_)
              refine c_region ?_
              refine o_pure (p_move (v := .int .i64 k) rfl) rfl rfl rfl ?_
              refine o_pure (p_subb (p := k) (q := 1) rfl rfl (by omega)) rfl rfl rfl ?_
              refine o_pure (p_assign (v := .int .i64 (k - 1)) rfl) rfl rfl rfl ?_
              refine o_nil ?_
              refine q_round hK8 (k, (k - 1)) ?_ ?_ ?_ ?_
              · clear hK8
                first | exact hK_.hit hk0 (by assumption) | exact hK_.miss hk0 (by assumption)
              · (try dsimp only); omega
              · exact Sub.cons rfl (Sub.cons rfl (Sub.cons rfl (Sub.cons rfl (Sub.cons rfl (Sub.cons rfl (Sub.cons rfl (Sub.nil _)))))))
              · exact fun _ hw => HeapIs.pick hw [0, 1] (by decide) rfl
            · simp only [Bool.or_eq_false_iff, beq_eq_false_iff_ne, ne_eq] at hc11
              refine c_skip ?_
              refine q_block_normal (q_then ?_)
              refine c_region ?_
              refine o_pure (p_move (v := .int .i64 k) rfl) rfl rfl rfl ?_
              refine o_pure (p_subb (p := k) (q := 1) rfl rfl (by omega)) rfl rfl rfl ?_
              refine o_pure (p_assign (v := .int .i64 (k - 1)) rfl) rfl rfl rfl ?_
              refine o_nil ?_
              refine q_round hK8 (cut, (k - 1)) ?_ ?_ ?_ ?_
              · clear hK8
                first | exact hK_.hit hk0 (by assumption) | exact hK_.miss hk0 (by assumption)
              · (try dsimp only); omega
              · exact Sub.cons rfl (Sub.cons rfl (Sub.cons rfl (Sub.cons rfl (Sub.cons rfl (Sub.cons rfl (Sub.cons rfl (Sub.nil _)))))))
              · exact fun _ hw => HeapIs.pick hw [0, 1] (by decide) rfl
          · simp only [decide_eq_false_iff_not, Int.not_le] at hc9
            have hrw := hK_.done (by omega)
            have hr1 := hrw.lo
            have hr2 := hrw.hi
            have hng := Trc.num_ge ((s.extract fr.toNat i).extract 0 cut.toNat)
            refine c_exit ?_
            refine q_then_exit (q_then_exit (q_block_exit (q_then ?_)))
            refine c_seq ?_
            refine c_region ?_
            refine o_pure (p_move (v := .string (s.extract fr.toNat i)) rfl) rfl rfl rfl ?_
            refine o_pure (p_move (v := .int .i64 cut) rfl) rfl rfl rfl ?_
            refine o_pure (p_sliceStrH (s := (s.extract fr.toNat i)) (h := cut) rfl rfl Tryd.underlying9 (by omega) (by omega)) rfl rfl rfl ?_
            refine o_call0 (v := .int .i64 (Trc.num ((s.extract fr.toNat i).extract 0 cut.toNat))) rfl (lineNumber_ok ((s.extract fr.toNat i).extract 0 cut.toNat) (by first | assumption | omega | (rw [ByteArray.size_extract]; omega))) hf23 (fun _ _ => trivial) rfl ?_
            refine o_pure (p_assign (v := .int .i64 (Trc.num ((s.extract fr.toNat i).extract 0 cut.toNat))) rfl) rfl rfl rfl ?_
            refine o_pure (p_assign (v := .int .i64 0) rfl) rfl rfl rfl ?_
            refine o_nil ?_
            refine q_then ?_
            refine c_seq ?_
            refine c_seq ?_
            refine c_region ?_
            refine o_pure (p_move (v := .int .i64 cut) rfl) rfl rfl rfl ?_
            refine o_pure (p_move (v := .string (s.extract fr.toNat i)) rfl) rfl rfl rfl ?_
            refine o_pure (p_len_string rfl rfl Tryd.underlying9) rfl rfl rfl ?_
            refine o_pure (p_lt (p := cut) (q := ((s.extract fr.toNat i).size : Int)) rfl rfl) rfl rfl rfl ?_
            refine o_nil ?_
            refine q_then ?_
            refine c_join (G := Int)
              (fun b => [(0, .string s), (4, .slice aout out.length cout), (5, .int .i64 ((i : Int) + 1)), (6, .int .i64 (i : Int)), (7, .string (s.extract fr.toNat i)), (8, .int .i64 cut), (10, .int .i64 (Trc.num ((s.extract fr.toNat i).extract 0 cut.toNat))), (11, .int .i64 b)])
              (fun b => [own tInt Sout aout cout out, base w0])
              (fun b => b = if cut < ((s.extract fr.toNat i).size : Int) then Trc.num ((s.extract fr.toNat i).extract (cut + 1).toNat (s.extract fr.toNat i).size) else 0)
              (fun K hK12 => ?_) ?_
            · refine c_cond (b := decide (cut < ((s.extract fr.toNat i).size : Int))) rfl (fun hc13 => ?_) (fun hc13 => ?_)
              · simp only [decide_eq_true_eq] at hc13
                refine c_region ?_
                refine o_pure (p_move (v := .string (s.extract fr.toNat i)) rfl) rfl rfl rfl ?_
                refine o_pure (p_move (v := .int .i64 cut) rfl) rfl rfl rfl ?_
                refine o_pure (p_addb (p := cut) (q := 1) rfl rfl (by omega)) rfl rfl rfl ?_
                refine o_pure (p_sliceStrL (s := (s.extract fr.toNat i)) (l := (cut + 1)) rfl rfl Tryd.underlying9 (by omega) (by omega)) rfl rfl rfl ?_
                refine o_call0 (v := .int .i64 (Trc.num ((s.extract fr.toNat i).extract ((cut + 1).toNat) (s.extract fr.toNat i).size))) rfl (lineNumber_ok ((s.extract fr.toNat i).extract ((cut + 1).toNat) (s.extract fr.toNat i).size) (by first | assumption | omega | (rw [ByteArray.size_extract]; omega))) hf23 (fun _ _ => trivial) rfl ?_
                refine o_pure (p_assign (v := .int .i64 (Trc.num ((s.extract fr.toNat i).extract ((cut + 1).toNat) (s.extract fr.toNat i).size))) rfl) rfl rfl rfl ?_
                refine o_nil ?_
                refine q_join hK12 (Trc.num ((s.extract fr.toNat i).extract ((cut + 1).toNat) (s.extract fr.toNat i).size)) ?_ (Sub.cons rfl (Sub.cons rfl (Sub.cons rfl (Sub.cons rfl (Sub.cons rfl (Sub.cons rfl (Sub.cons rfl (Sub.cons rfl (Sub.nil _))))))))) (fun _ hw => HeapIs.pick hw [0, 1] (by decide) rfl)
                clear hK12
                first | exact (if_pos (by assumption)).symm | exact (if_neg (by omega)).symm
              · simp only [decide_eq_false_iff_not, Int.not_lt] at hc13
                refine c_skip ?_
                refine q_join hK12 0 ?_ (Sub.cons rfl (Sub.cons rfl (Sub.cons rfl (Sub.cons rfl (Sub.cons rfl (Sub.cons rfl (Sub.cons rfl (Sub.cons rfl (Sub.nil _))))))))) (fun _ hw => HeapIs.pick hw [0, 1] (by decide) rfl)
                clear hK12
                first | exact (if_pos (by assumption)).symm | exact (if_neg (by omega)).symm
            rintro b hjb
            have hnb : -1 ≤ b ∧ b ≤ 9999999 := by rw [hjb]; split; exact Trc.num_ge _; omega
            show SQ _ 156 w0 _ _ [(0, .string s), (4, .slice aout out.length cout), (5, .int .i64 ((i : Int) + 1)), (6, .int .i64 (i : Int)), (7, .string (s.extract fr.toNat i)), (8, .int .i64 cut), (10, .int .i64 (Trc.num ((s.extract fr.toNat i).extract 0 cut.toNat))), (11, .int .i64 b)] [own tInt Sout aout cout out, base w0]
            refine q_then ?_
            refine c_seq ?_
            refine c_region ?_
            refine o_pure (p_move (v := .int .i64 cut) rfl) rfl rfl rfl ?_
            refine o_pure (p_move (v := .string (s.extract fr.toNat i)) rfl) rfl rfl rfl ?_
            refine o_pure (p_len_string rfl rfl Tryd.underlying9) rfl rfl rfl ?_
            refine o_pure (p_lt (p := cut) (q := ((s.extract fr.toNat i).size : Int)) rfl rfl) rfl rfl rfl ?_
            refine o_pure (p_move (v := .bool (decide (cut < ((s.extract fr.toNat i).size : Int)))) rfl) rfl rfl rfl ?_
            refine o_and (p := 85) 5 (((byteAt (s.extract fr.toNat i) cut.toNat).toNat : Int) == 42) ?_ ?_ ?_
            · intro hb14 hk
              simp only [decide_eq_true_eq] at hb14
              refine o_unguard 80 rfl rfl ?_
              refine o_pure (p_move (v := .string (s.extract fr.toNat i)) rfl) rfl rfl rfl ?_
              refine o_unguard 80 rfl rfl ?_
              refine o_pure (p_move (v := .int .i64 cut) rfl) rfl rfl rfl ?_
              refine o_unguard 80 rfl rfl ?_
              refine o_pure (p_indexStr (z := cut) (i := cut.toNat) rfl rfl Tryd.underlying9 (by omega) (by omega)) rfl rfl rfl ?_
              refine o_unguard 80 rfl rfl ?_
              refine o_pure (p_eq (p := ((byteAt (s.extract fr.toNat i) cut.toNat).toNat : Int)) (q := 42) rfl rfl) rfl rfl rfl ?_
              refine o_pure (p_pick_true (u := .bool (((byteAt (s.extract fr.toNat i) cut.toNat).toNat : Int) == 42)) rfl rfl) rfl rfl rfl ?_
              exact o_sub (Sub.cons rfl (Sub.skip rfl (Sub.skip rfl (Sub.skip rfl (Sub.skip rfl (Sub.skip rfl (Sub.skip rfl (Sub.refl _)))))))) hk
            · intro hb14 hk
              refine o_guard_no rfl 80 rfl rfl rfl rfl rfl ?_
              refine o_guard_no rfl 80 rfl rfl rfl rfl rfl ?_
              refine o_guard_no rfl 80 rfl rfl rfl rfl rfl ?_
              refine o_guard_no rfl 80 rfl rfl rfl rfl rfl ?_
              refine o_pure (p_pick_false (v := .bool false) rfl rfl) rfl rfl rfl ?_
              exact o_sub (Sub.cons rfl (Sub.skip rfl (Sub.skip rfl (Sub.skip rfl (Sub.skip rfl (Sub.skip rfl (Sub.skip rfl (Sub.refl _)))))))) hk
            refine o_pure (p_assign (v := .bool (decide (cut < ((s.extract fr.toNat i).size : Int)) && (((byteAt (s.extract fr.toNat i) cut.toNat).toNat : Int) == 42))) rfl) rfl rfl rfl ?_
            refine o_nil ?_
            refine q_then ?_
            refine c_seq ?_
            refine c_region ?_
            refine o_pure (p_move (v := .int .i64 cut) rfl) rfl rfl rfl ?_
            refine o_pure (p_move (v := .string (s.extract fr.toNat i)) rfl) rfl rfl rfl ?_
            refine o_pure (p_len_string rfl rfl Tryd.underlying9) rfl rfl rfl ?_
            refine o_pure (p_lt (p := cut) (q := ((s.extract fr.toNat i).size : Int)) rfl rfl) rfl rfl rfl ?_
            refine o_pure (p_move (v := .bool (decide (cut < ((s.extract fr.toNat i).size : Int)))) rfl) rfl rfl rfl ?_
            refine o_and (p := 95) 5 (((byteAt (s.extract fr.toNat i) cut.toNat).toNat : Int) == 45) ?_ ?_ ?_
            · intro hb15 hk
              simp only [decide_eq_true_eq] at hb15
              refine o_unguard 90 rfl rfl ?_
              refine o_pure (p_move (v := .string (s.extract fr.toNat i)) rfl) rfl rfl rfl ?_
              refine o_unguard 90 rfl rfl ?_
              refine o_pure (p_move (v := .int .i64 cut) rfl) rfl rfl rfl ?_
              refine o_unguard 90 rfl rfl ?_
              refine o_pure (p_indexStr (z := cut) (i := cut.toNat) rfl rfl Tryd.underlying9 (by omega) (by omega)) rfl rfl rfl ?_
              refine o_unguard 90 rfl rfl ?_
              refine o_pure (p_eq (p := ((byteAt (s.extract fr.toNat i) cut.toNat).toNat : Int)) (q := 45) rfl rfl) rfl rfl rfl ?_
              refine o_pure (p_pick_true (u := .bool (((byteAt (s.extract fr.toNat i) cut.toNat).toNat : Int) == 45)) rfl rfl) rfl rfl rfl ?_
              exact o_sub (Sub.cons rfl (Sub.skip rfl (Sub.skip rfl (Sub.skip rfl (Sub.skip rfl (Sub.skip rfl (Sub.skip rfl (Sub.refl _)))))))) hk
            · intro hb15 hk
              refine o_guard_no rfl 90 rfl rfl rfl rfl rfl ?_
              refine o_guard_no rfl 90 rfl rfl rfl rfl rfl ?_
              refine o_guard_no rfl 90 rfl rfl rfl rfl rfl ?_
              refine o_guard_no rfl 90 rfl rfl rfl rfl rfl ?_
              refine o_pure (p_pick_false (v := .bool false) rfl rfl) rfl rfl rfl ?_
              exact o_sub (Sub.cons rfl (Sub.skip rfl (Sub.skip rfl (Sub.skip rfl (Sub.skip rfl (Sub.skip rfl (Sub.skip rfl (Sub.refl _)))))))) hk
            refine o_pure (p_assign (v := .bool (decide (cut < ((s.extract fr.toNat i).size : Int)) && (((byteAt (s.extract fr.toNat i) cut.toNat).toNat : Int) == 45))) rfl) rfl rfl rfl ?_
            refine o_nil ?_
            refine q_then ?_
            refine c_seq ?_
            refine c_seq ?_
            refine c_region ?_
            refine o_pure (p_move (v := .int .i64 (Trc.num ((s.extract fr.toNat i).extract 0 cut.toNat))) rfl) rfl rfl rfl ?_
            refine o_pure (p_lt (p := (Trc.num ((s.extract fr.toNat i).extract 0 cut.toNat))) (q := 0) rfl rfl) rfl rfl rfl ?_
            refine o_pure (p_move (v := .bool (decide ((Trc.num ((s.extract fr.toNat i).extract 0 cut.toNat)) < 0))) rfl) rfl rfl rfl ?_
            refine o_or (p := 101) 3 (decide (b < 0)) ?_ ?_ ?_
            · intro hb16 hk
              simp only [decide_eq_false_iff_not, Int.not_lt] at hb16
              refine o_unguard 98 rfl rfl ?_
              refine o_pure (p_move (v := .int .i64 b) rfl) rfl rfl rfl ?_
              refine o_unguard 98 rfl rfl ?_
              refine o_pure (p_lt (p := b) (q := 0) rfl rfl) rfl rfl rfl ?_
              refine o_pure (p_pick_false (v := .bool (decide (b < 0))) rfl rfl) rfl rfl rfl ?_
              exact o_sub (Sub.cons rfl (Sub.skip rfl (Sub.skip rfl (Sub.skip rfl (Sub.skip rfl (Sub.refl _)))))) hk
            · intro hb16 hk
              refine o_guard_no rfl 98 rfl rfl rfl rfl rfl ?_
              refine o_guard_no rfl 98 rfl rfl rfl rfl rfl ?_
              refine o_pure (p_pick_true (u := .bool true) rfl rfl) rfl rfl rfl ?_
              exact o_sub (Sub.cons rfl (Sub.skip rfl (Sub.skip rfl (Sub.skip rfl (Sub.skip rfl (Sub.refl _)))))) hk
            refine o_pure (p_move (v := .bool (decide ((Trc.num ((s.extract fr.toNat i).extract 0 cut.toNat)) < 0) || decide (b < 0))) rfl) rfl rfl rfl ?_
            refine o_or (p := 108) 6 ((decide (cut < ((s.extract fr.toNat i).size : Int)) && (((byteAt (s.extract fr.toNat i) cut.toNat).toNat : Int) == 42)) && decide (b < 2)) ?_ ?_ ?_
            · intro hb17 hk
              simp only [Bool.or_eq_false_iff, decide_eq_false_iff_not, Int.not_lt] at hb17
              refine o_unguard 102 rfl rfl ?_
              refine o_pure (p_move (v := .bool (decide (cut < ((s.extract fr.toNat i).size : Int)) && (((byteAt (s.extract fr.toNat i) cut.toNat).toNat : Int) == 42))) rfl) rfl rfl rfl ?_
              refine o_unguard 102 rfl rfl ?_
              refine o_pure (p_move (v := .bool (decide (cut < ((s.extract fr.toNat i).size : Int)) && (((byteAt (s.extract fr.toNat i) cut.toNat).toNat : Int) == 42))) rfl) rfl rfl rfl ?_
              refine o_and (p := 107) 3 (decide (b < 2)) ?_ ?_ ?_
              · intro hb18 hk
                simp only [Bool.and_eq_true, decide_eq_true_eq, beq_iff_eq] at hb18
                refine o_unguard 104 rfl rfl ?_
                refine o_pure (p_move (v := .int .i64 b) rfl) rfl rfl rfl ?_
                refine o_unguard 104 rfl rfl ?_
                refine o_pure (p_lt (p := b) (q := 2) rfl rfl) rfl rfl rfl ?_
                refine o_unguard 102 rfl rfl ?_
                refine o_pure (p_pick_true (u := .bool (decide (b < 2))) rfl rfl) rfl rfl rfl ?_
                exact o_sub (Sub.cons rfl (Sub.skip rfl (Sub.skip rfl (Sub.skip rfl (Sub.skip rfl (Sub.refl _)))))) hk
              · intro hb18 hk
                refine o_guard_no rfl 104 rfl rfl rfl rfl rfl ?_
                refine o_guard_no rfl 104 rfl rfl rfl rfl rfl ?_
                refine o_unguard 102 rfl rfl ?_
                refine o_pure (p_pick_false (v := .bool false) rfl rfl) rfl rfl rfl ?_
                exact o_sub (Sub.cons rfl (Sub.skip rfl (Sub.skip rfl (Sub.skip rfl (Sub.skip rfl (Sub.refl _)))))) hk
              refine o_pure (p_pick_false (v := .bool ((decide (cut < ((s.extract fr.toNat i).size : Int)) && (((byteAt (s.extract fr.toNat i) cut.toNat).toNat : Int) == 42)) && decide (b < 2))) rfl rfl) rfl rfl rfl ?_
              exact o_sub (Sub.cons rfl (Sub.skip rfl (Sub.skip rfl (Sub.skip rfl (Sub.skip rfl (Sub.refl _)))))) hk
            · intro hb17 hk
              refine o_guard_no rfl 102 rfl rfl rfl rfl rfl ?_
              refine o_guard_no rfl 102 rfl rfl rfl rfl rfl ?_
              refine o_guard_no rfl 104 rfl rfl rfl rfl rfl ?_
              refine o_guard_no rfl 104 rfl rfl rfl rfl rfl ?_
              refine o_guard_no rfl 102 rfl rfl rfl rfl rfl ?_
              refine o_pure (p_pick_true (u := .bool true) rfl rfl) rfl rfl rfl ?_
              exact o_sub (Sub.cons rfl (Sub.skip rfl (Sub.skip rfl (Sub.skip rfl (Sub.skip rfl (Sub.skip rfl (Sub.skip rfl (Sub.skip rfl (Sub.refl _))))))))) hk
            refine o_pure (p_move (v := .bool ((decide ((Trc.num ((s.extract fr.toNat i).extract 0 cut.toNat)) < 0) || decide (b < 0)) || ((decide (cut < ((s.extract fr.toNat i).size : Int)) && (((byteAt (s.extract fr.toNat i) cut.toNat).toNat : Int) == 42)) && decide (b < 2)))) rfl) rfl rfl rfl ?_
            refine o_or (p := 117) 8 ((decide (cut < ((s.extract fr.toNat i).size : Int)) && (((byteAt (s.extract fr.toNat i) cut.toNat).toNat : Int) == 45)) && decide (b < ((Trc.num ((s.extract fr.toNat i).extract 0 cut.toNat)) + 2))) ?_ ?_ ?_
            · intro hb19 hk
              simp only [Bool.or_eq_false_iff, decide_eq_false_iff_not, Int.not_lt, Bool.and_eq_false_iff, beq_eq_false_iff_ne, ne_eq] at hb19
              refine o_unguard 109 rfl rfl ?_
              refine o_pure (p_move (v := .bool (decide (cut < ((s.extract fr.toNat i).size : Int)) && (((byteAt (s.extract fr.toNat i) cut.toNat).toNat : Int) == 45))) rfl) rfl rfl rfl ?_
              refine o_unguard 109 rfl rfl ?_
              refine o_pure (p_move (v := .bool (decide (cut < ((s.extract fr.toNat i).size : Int)) && (((byteAt (s.extract fr.toNat i) cut.toNat).toNat : Int) == 45))) rfl) rfl rfl rfl ?_
              refine o_and (p := 116) 5 (decide (b < ((Trc.num ((s.extract fr.toNat i).extract 0 cut.toNat)) + 2))) ?_ ?_ ?_
              · intro hb20 hk
                simp only [Bool.and_eq_true, decide_eq_true_eq, beq_iff_eq] at hb20
                refine o_unguard 111 rfl rfl ?_
                refine o_pure (p_move (v := .int .i64 b) rfl) rfl rfl rfl ?_
                refine o_unguard 111 rfl rfl ?_
                refine o_pure (p_move (v := .int .i64 (Trc.num ((s.extract fr.toNat i).extract 0 cut.toNat))) rfl) rfl rfl rfl ?_
                refine o_unguard 111 rfl rfl ?_
                refine o_pure (p_addb (p := (Trc.num ((s.extract fr.toNat i).extract 0 cut.toNat))) (q := 2) rfl rfl (by omega)) rfl rfl rfl ?_
                refine o_unguard 111 rfl rfl ?_
                refine o_pure (p_lt (p := b) (q := ((Trc.num ((s.extract fr.toNat i).extract 0 cut.toNat)) + 2)) rfl rfl) rfl rfl rfl ?_
                refine o_unguard 109 rfl rfl ?_
                refine o_pure (p_pick_true (u := .bool (decide (b < ((Trc.num ((s.extract fr.toNat i).extract 0 cut.toNat)) + 2)))) rfl rfl) rfl rfl rfl ?_
                exact o_sub (Sub.cons rfl (Sub.skip rfl (Sub.skip rfl (Sub.skip rfl (Sub.skip rfl (Sub.skip rfl (Sub.skip rfl (Sub.refl _)))))))) hk
              · intro hb20 hk
                refine o_guard_no rfl 111 rfl rfl rfl rfl rfl ?_
                refine o_guard_no rfl 111 rfl rfl rfl rfl rfl ?_
                refine o_guard_no rfl 111 rfl rfl rfl rfl rfl ?_
                refine o_guard_no rfl 111 rfl rfl rfl rfl rfl ?_
                refine o_unguard 109 rfl rfl ?_
                refine o_pure (p_pick_false (v := .bool false) rfl rfl) rfl rfl rfl ?_
                exact o_sub (Sub.cons rfl (Sub.skip rfl (Sub.skip rfl (Sub.skip rfl (Sub.skip rfl (Sub.skip rfl (Sub.skip rfl (Sub.refl _)))))))) hk
              refine o_pure (p_pick_false (v := .bool ((decide (cut < ((s.extract fr.toNat i).size : Int)) && (((byteAt (s.extract fr.toNat i) cut.toNat).toNat : Int) == 45)) && decide (b < ((Trc.num ((s.extract fr.toNat i).extract 0 cut.toNat)) + 2)))) rfl rfl) rfl rfl rfl ?_
              exact o_sub (Sub.cons rfl (Sub.skip rfl (Sub.skip rfl (Sub.skip rfl (Sub.skip rfl (Sub.refl _)))))) hk
            · intro hb19 hk
              refine o_guard_no rfl 109 rfl rfl rfl rfl rfl ?_
              refine o_guard_no rfl 109 rfl rfl rfl rfl rfl ?_
              refine o_guard_no rfl 111 rfl rfl rfl rfl rfl ?_
              refine o_guard_no rfl 111 rfl rfl rfl rfl rfl ?_
              refine o_guard_no rfl 111 rfl rfl rfl rfl rfl ?_
              refine o_guard_no rfl 111 rfl rfl rfl rfl rfl ?_
              refine o_guard_no rfl 109 rfl rfl rfl rfl rfl ?_
              refine o_pure (p_pick_true (u := .bool true) rfl rfl) rfl rfl rfl ?_
              exact o_sub (Sub.cons rfl (Sub.skip rfl (Sub.skip rfl (Sub.skip rfl (Sub.skip rfl (Sub.skip rfl (Sub.skip rfl (Sub.skip rfl (Sub.skip rfl (Sub.skip rfl (Sub.refl _))))))))))) hk
            refine o_nil ?_
            refine q_then ?_
            refine c_cond (b := (((decide ((Trc.num ((s.extract fr.toNat i).extract 0 cut.toNat)) < 0) || decide (b < 0)) || ((decide (cut < ((s.extract fr.toNat i).size : Int)) && (((byteAt (s.extract fr.toNat i) cut.toNat).toNat : Int) == 42)) && decide (b < 2))) || ((decide (cut < ((s.extract fr.toNat i).size : Int)) && (((byteAt (s.extract fr.toNat i) cut.toNat).toNat : Int) == 45)) && decide (b < ((Trc.num ((s.extract fr.toNat i).extract 0 cut.toNat)) + 2))))) rfl (fun hc21 => ?_) (fun hc21 => ?_)
            · simp only [Bool.or_eq_true, decide_eq_true_eq, Bool.and_eq_true, beq_iff_eq] at hc21
              have hend := hI.err hil hsp (Trc.rw_form hrw hjb hc21) (by decide)
              refine c_seq ?_
              refine c_region ?_
              refine o_pure (p_assign (v := .slice none 0 0) rfl) rfl rfl rfl ?_
              refine o_pure (p_assign (v := .int .i64 1) rfl) rfl rfl rfl ?_
              refine o_nil ?_
              refine q_then ?_
              refine c_ret ?_
              refine q_then_ret (q_block_ret (q_then_ret (q_then_ret (q_block_ret (q_then_ret ?_)))))
              have hr0 : ([] : List Int) = ((Trc.parse s).1) := by
                first | exact hend.1 | exact hend.2
              have hr1 : (1 : Int) = ((Trc.parse s).2) := by
                first | exact hend.1 | exact hend.2
              refine q_endM (p := (none, 0)) (fun _ => False) (rt2 rfl (r_tmp rfl) (r_tmp rfl)) (i := 1) rfl ?_ ?_ ?_
              · exact (by have hcc := congr (congrArg (fun (y0 : List Int) (y1 : Int) => (.tuple #[.slice none y0.length 0, .int .i64 y1] : Value)) hr0) hr1; exact hcc)
              · intro w hw b hb; exact hb.elim
              · intro w hw; exact Eq.mp (congrArg (fun y => SlO tInt _ w none 0 y) hr0) (SlO.nil tInt w)
            · simp only [Bool.or_eq_false_iff, decide_eq_false_iff_not, Int.not_lt, Bool.and_eq_false_iff, beq_eq_false_iff_ne, ne_eq] at hc21
              have hfm := hc21
              refine c_skip ?_
              refine q_then ?_
              refine c_seq ?_
              refine c_seq ?_
              refine c_region ?_
              refine o_pure (p_move (v := .int .i64 (Trc.num ((s.extract fr.toNat i).extract 0 cut.toNat))) rfl) rfl rfl rfl ?_
              refine o_pure (p_gt (p := (Trc.num ((s.extract fr.toNat i).extract 0 cut.toNat))) (q := 1048576) rfl rfl) rfl rfl rfl ?_
              refine o_pure (p_move (v := .bool (decide (1048576 < (Trc.num ((s.extract fr.toNat i).extract 0 cut.toNat))))) rfl) rfl rfl rfl ?_
              refine o_or (p := 126) 6 ((decide (cut < ((s.extract fr.toNat i).size : Int)) && (((byteAt (s.extract fr.toNat i) cut.toNat).toNat : Int) == 45)) && decide (1048576 < b)) ?_ ?_ ?_
              · intro hb22 hk
                simp only [decide_eq_false_iff_not, Int.not_lt] at hb22
                refine o_unguard 120 rfl rfl ?_
                refine o_pure (p_move (v := .bool (decide (cut < ((s.extract fr.toNat i).size : Int)) && (((byteAt (s.extract fr.toNat i) cut.toNat).toNat : Int) == 45))) rfl) rfl rfl rfl ?_
                refine o_unguard 120 rfl rfl ?_
                refine o_pure (p_move (v := .bool (decide (cut < ((s.extract fr.toNat i).size : Int)) && (((byteAt (s.extract fr.toNat i) cut.toNat).toNat : Int) == 45))) rfl) rfl rfl rfl ?_
                refine o_and (p := 125) 3 (decide (1048576 < b)) ?_ ?_ ?_
                · intro hb23 hk
                  simp only [Bool.and_eq_true, decide_eq_true_eq, beq_iff_eq] at hb23
                  refine o_unguard 122 rfl rfl ?_
                  refine o_pure (p_move (v := .int .i64 b) rfl) rfl rfl rfl ?_
                  refine o_unguard 122 rfl rfl ?_
                  refine o_pure (p_gt (p := b) (q := 1048576) rfl rfl) rfl rfl rfl ?_
                  refine o_unguard 120 rfl rfl ?_
                  refine o_pure (p_pick_true (u := .bool (decide (1048576 < b))) rfl rfl) rfl rfl rfl ?_
                  exact o_sub (Sub.cons rfl (Sub.skip rfl (Sub.skip rfl (Sub.skip rfl (Sub.skip rfl (Sub.refl _)))))) hk
                · intro hb23 hk
                  refine o_guard_no rfl 122 rfl rfl rfl rfl rfl ?_
                  refine o_guard_no rfl 122 rfl rfl rfl rfl rfl ?_
                  refine o_unguard 120 rfl rfl ?_
                  refine o_pure (p_pick_false (v := .bool false) rfl rfl) rfl rfl rfl ?_
                  exact o_sub (Sub.cons rfl (Sub.skip rfl (Sub.skip rfl (Sub.skip rfl (Sub.skip rfl (Sub.refl _)))))) hk
                refine o_pure (p_pick_false (v := .bool ((decide (cut < ((s.extract fr.toNat i).size : Int)) && (((byteAt (s.extract fr.toNat i) cut.toNat).toNat : Int) == 45)) && decide (1048576 < b))) rfl rfl) rfl rfl rfl ?_
                exact o_sub (Sub.cons rfl (Sub.skip rfl (Sub.skip rfl (Sub.skip rfl (Sub.skip rfl (Sub.refl _)))))) hk
              · intro hb22 hk
                refine o_guard_no rfl 120 rfl rfl rfl rfl rfl ?_
                refine o_guard_no rfl 120 rfl rfl rfl rfl rfl ?_
                refine o_guard_no rfl 122 rfl rfl rfl rfl rfl ?_
                refine o_guard_no rfl 122 rfl rfl rfl rfl rfl ?_
                refine o_guard_no rfl 120 rfl rfl rfl rfl rfl ?_
                refine o_pure (p_pick_true (u := .bool true) rfl rfl) rfl rfl rfl ?_
                exact o_sub (Sub.cons rfl (Sub.skip rfl (Sub.skip rfl (Sub.skip rfl (Sub.skip rfl (Sub.skip rfl (Sub.skip rfl (Sub.skip rfl (Sub.refl _))))))))) hk
              refine o_nil ?_
              refine q_then ?_
              refine c_cond (b := (decide (1048576 < (Trc.num ((s.extract fr.toNat i).extract 0 cut.toNat))) || ((decide (cut < ((s.extract fr.toNat i).size : Int)) && (((byteAt (s.extract fr.toNat i) cut.toNat).toNat : Int) == 45)) && decide (1048576 < b)))) rfl (fun hc24 => ?_) (fun hc24 => ?_)
              · simp only [Bool.or_eq_true, decide_eq_true_eq, Bool.and_eq_true, beq_iff_eq] at hc24
                have hend := hI.err hil hsp (Trc.rw_range hrw hjb hfm hc24) (by decide)
                refine c_seq ?_
                refine c_region ?_
                refine o_pure (p_assign (v := .slice none 0 0) rfl) rfl rfl rfl ?_
                refine o_pure (p_assign (v := .int .i64 3) rfl) rfl rfl rfl ?_
                refine o_nil ?_
                refine q_then ?_
                refine c_ret ?_
                refine q_then_ret (q_block_ret (q_then_ret (q_then_ret (q_block_ret (q_then_ret ?_)))))
                have hr0 : ([] : List Int) = ((Trc.parse s).1) := by
                  first | exact hend.1 | exact hend.2
                have hr1 : (3 : Int) = ((Trc.parse s).2) := by
                  first | exact hend.1 | exact hend.2
                refine q_endM (p := (none, 0)) (fun _ => False) (rt2 rfl (r_tmp rfl) (r_tmp rfl)) (i := 1) rfl ?_ ?_ ?_
                · exact (by have hcc := congr (congrArg (fun (y0 : List Int) (y1 : Int) => (.tuple #[.slice none y0.length 0, .int .i64 y1] : Value)) hr0) hr1; exact hcc)
                · intro w hw b hb; exact hb.elim
                · intro w hw; exact Eq.mp (congrArg (fun y => SlO tInt _ w none 0 y) hr0) (SlO.nil tInt w)
              · simp only [Bool.or_eq_false_iff, decide_eq_false_iff_not, Int.not_lt, Bool.and_eq_false_iff, beq_eq_false_iff_ne, ne_eq] at hc24
                have hrg := hc24
                obtain ⟨he0, hek⟩ := Trc.rw_ok hrw hjb hfm hrg
                refine c_skip ?_
                refine q_then ?_
                refine c_seq ?_
                refine c_region ?_
                refine o_pure (p_assign (v := .int .i64 1) rfl) rfl rfl rfl ?_
                refine o_nil ?_
                refine q_then ?_
                refine c_seq ?_
                refine c_seq ?_
                refine c_region ?_
                refine o_pure (p_move (v := .bool (decide (cut < ((s.extract fr.toNat i).size : Int)) && (((byteAt (s.extract fr.toNat i) cut.toNat).toNat : Int) == 42))) rfl) rfl rfl rfl ?_
                refine o_nil ?_
                refine q_then ?_
                refine c_join (G := Int)
                  (fun m1 => [(0, .string s), (4, .slice aout out.length cout), (5, .int .i64 ((i : Int) + 1)), (6, .int .i64 (i : Int)), (10, .int .i64 (Trc.num ((s.extract fr.toNat i).extract 0 cut.toNat))), (11, .int .i64 b), (13, .bool (decide (cut < ((s.extract fr.toNat i).size : Int)) && (((byteAt (s.extract fr.toNat i) cut.toNat).toNat : Int) == 45))), (14, .int .i64 m1)])
                  (fun m1 => [own tInt Sout aout cout out, base w0])
                  (fun m1 => m1 = if (cut < ((s.extract fr.toNat i).size : Int) ∧ ((byteAt (s.extract fr.toNat i) cut.toNat).toNat : Int) = 42) then b else 1)
                  (fun K hK25 => ?_) ?_
                · refine c_cond (b := (decide (cut < ((s.extract fr.toNat i).size : Int)) && (((byteAt (s.extract fr.toNat i) cut.toNat).toNat : Int) == 42))) rfl (fun hc26 => ?_) (fun hc26 => ?_)
                  · simp only [Bool.and_eq_true, decide_eq_true_eq, beq_iff_eq] at hc26
                    refine c_region ?_
                    refine o_pure (p_move (v := .int .i64 b) rfl) rfl rfl rfl ?_
                    refine o_pure (p_assign (v := .int .i64 b) rfl) rfl rfl rfl ?_
                    refine o_nil ?_
                    refine q_join hK25 b ?_ (Sub.cons rfl (Sub.cons rfl (Sub.cons rfl (Sub.cons rfl (Sub.cons rfl (Sub.cons rfl (Sub.cons rfl (Sub.cons rfl (Sub.nil _))))))))) (fun _ hw => HeapIs.pick hw [0, 1] (by decide) rfl)
                    clear hK25
                    first | exact (if_pos (by assumption)).symm | exact (if_neg (by omega)).symm
                  · simp only [Bool.and_eq_false_iff, decide_eq_false_iff_not, Int.not_lt, beq_eq_false_iff_ne, ne_eq] at hc26
                    refine c_skip ?_
                    refine q_join hK25 1 ?_ (Sub.cons rfl (Sub.cons rfl (Sub.cons rfl (Sub.cons rfl (Sub.cons rfl (Sub.cons rfl (Sub.cons rfl (Sub.cons rfl (Sub.nil _))))))))) (fun _ hw => HeapIs.pick hw [0, 1] (by decide) rfl)
                    clear hK25
                    first | exact (if_pos (by assumption)).symm | exact (if_neg (by omega)).symm
                rintro m1 hm1
                have hmb1 : -1 ≤ m1 ∧ m1 ≤ 9999999 := by rw [hm1]; split <;> omega
                show SQ _ 156 w0 _ _ [(0, .string s), (4, .slice aout out.length cout), (5, .int .i64 ((i : Int) + 1)), (6, .int .i64 (i : Int)), (10, .int .i64 (Trc.num ((s.extract fr.toNat i).extract 0 cut.toNat))), (11, .int .i64 b), (13, .bool (decide (cut < ((s.extract fr.toNat i).size : Int)) && (((byteAt (s.extract fr.toNat i) cut.toNat).toNat : Int) == 45))), (14, .int .i64 m1)] [own tInt Sout aout cout out, base w0]
                refine q_then ?_
                refine c_seq ?_
                refine c_seq ?_
                refine c_region ?_
                refine o_pure (p_move (v := .bool (decide (cut < ((s.extract fr.toNat i).size : Int)) && (((byteAt (s.extract fr.toNat i) cut.toNat).toNat : Int) == 45))) rfl) rfl rfl rfl ?_
                refine o_nil ?_
                refine q_then ?_
                refine c_join (G := Int)
                  (fun m2 => [(0, .string s), (4, .slice aout out.length cout), (5, .int .i64 ((i : Int) + 1)), (6, .int .i64 (i : Int)), (10, .int .i64 (Trc.num ((s.extract fr.toNat i).extract 0 cut.toNat))), (13, .bool (decide (cut < ((s.extract fr.toNat i).size : Int)) && (((byteAt (s.extract fr.toNat i) cut.toNat).toNat : Int) == 45))), (14, .int .i64 m2)])
                  (fun m2 => [own tInt Sout aout cout out, base w0])
                  (fun m2 => m2 = if (cut < ((s.extract fr.toNat i).size : Int) ∧ ((byteAt (s.extract fr.toNat i) cut.toNat).toNat : Int) = 45) then b - Trc.num ((s.extract fr.toNat i).extract 0 cut.toNat) + 1 else m1)
                  (fun K hK27 => ?_) ?_
                · refine c_cond (b := (decide (cut < ((s.extract fr.toNat i).size : Int)) && (((byteAt (s.extract fr.toNat i) cut.toNat).toNat : Int) == 45))) rfl (fun hc28 => ?_) (fun hc28 => ?_)
                  · simp only [Bool.and_eq_true, decide_eq_true_eq, beq_iff_eq] at hc28
                    refine c_region ?_
                    refine o_pure (p_move (v := .int .i64 b) rfl) rfl rfl rfl ?_
                    refine o_pure (p_move (v := .int .i64 (Trc.num ((s.extract fr.toNat i).extract 0 cut.toNat))) rfl) rfl rfl rfl ?_
                    refine o_pure (p_subb (p := b) (q := (Trc.num ((s.extract fr.toNat i).extract 0 cut.toNat))) rfl rfl (by omega)) rfl rfl rfl ?_
                    refine o_pure (p_addb (p := (b - (Trc.num ((s.extract fr.toNat i).extract 0 cut.toNat)))) (q := 1) rfl rfl (by omega)) rfl rfl rfl ?_
                    refine o_pure (p_assign (v := .int .i64 ((b - (Trc.num ((s.extract fr.toNat i).extract 0 cut.toNat))) + 1)) rfl) rfl rfl rfl ?_
                    refine o_nil ?_
                    refine q_join hK27 ((b - (Trc.num ((s.extract fr.toNat i).extract 0 cut.toNat))) + 1) ?_ (Sub.cons rfl (Sub.cons rfl (Sub.cons rfl (Sub.cons rfl (Sub.cons rfl (Sub.cons rfl (Sub.cons rfl (Sub.nil _)))))))) (fun _ hw => HeapIs.pick hw [0, 1] (by decide) rfl)
                    clear hK27
                    first | exact (if_pos (by assumption)).symm | exact (if_neg (by omega)).symm
                  · simp only [Bool.and_eq_false_iff, decide_eq_false_iff_not, Int.not_lt, beq_eq_false_iff_ne, ne_eq] at hc28
                    refine c_skip ?_
                    refine q_join hK27 m1 ?_ (Sub.cons rfl (Sub.cons rfl (Sub.cons rfl (Sub.cons rfl (Sub.cons rfl (Sub.cons rfl (Sub.cons rfl (Sub.nil _)))))))) (fun _ hw => HeapIs.pick hw [0, 1] (by decide) rfl)
                    clear hK27
                    first | exact (if_pos (by assumption)).symm | exact (if_neg (by omega)).symm
                rintro m2 hjm2
                have hm2 := Trc.rw_many hrw hjb hfm hrg hm1 hjm2
                have hpb := Trc.pKey_bd (s.extract fr.toNat i)
                show SQ _ 156 w0 _ _ [(0, .string s), (4, .slice aout out.length cout), (5, .int .i64 ((i : Int) + 1)), (6, .int .i64 (i : Int)), (10, .int .i64 (Trc.num ((s.extract fr.toNat i).extract 0 cut.toNat))), (13, .bool (decide (cut < ((s.extract fr.toNat i).size : Int)) && (((byteAt (s.extract fr.toNat i) cut.toNat).toNat : Int) == 45))), (14, .int .i64 m2)] [own tInt Sout aout cout out, base w0]
                refine q_then ?_
                refine c_seq ?_
                refine c_seq ?_
                refine c_region ?_
                refine o_pure (p_move (v := .int .i64 m2) rfl) rfl rfl rfl ?_
                refine o_pure (p_move (v := .slice aout out.length cout) rfl) rfl rfl rfl ?_
                refine o_pure (p_len_slice (len := out.length) rfl rfl Tryd.underlying22) rfl rfl rfl ?_
                refine o_pure (p_subb (p := 200) (q := (out.length : Int)) rfl rfl (by omega)) rfl rfl rfl ?_
                refine o_pure (p_gt (p := m2) (q := (200 - (out.length : Int))) rfl rfl) rfl rfl rfl ?_
                refine o_nil ?_
                refine q_then ?_
                refine c_cond (b := decide ((200 - (out.length : Int)) < m2)) rfl (fun hc29 => ?_) (fun hc29 => ?_)
                · simp only [decide_eq_true_eq] at hc29
                  have hend := hI.many hil hsp he0 hm2 hc29
                  refine c_seq ?_
                  refine c_region ?_
                  refine o_pure (p_assign (v := .slice none 0 0) rfl) rfl rfl rfl ?_
                  refine o_pure (p_assign (v := .int .i64 2) rfl) rfl rfl rfl ?_
                  refine o_nil ?_
                  refine q_then ?_
                  refine c_ret ?_
                  refine q_then_ret (q_block_ret (q_then_ret (q_then_ret (q_block_ret (q_then_ret ?_)))))
                  have hr0 : ([] : List Int) = ((Trc.parse s).1) := by
                    first | exact hend.1 | exact hend.2
                  have hr1 : (2 : Int) = ((Trc.parse s).2) := by
                    first | exact hend.1 | exact hend.2
                  refine q_endM (p := (none, 0)) (fun _ => False) (rt2 rfl (r_tmp rfl) (r_tmp rfl)) (i := 1) rfl ?_ ?_ ?_
                  · exact (by have hcc := congr (congrArg (fun (y0 : List Int) (y1 : Int) => (.tuple #[.slice none y0.length 0, .int .i64 y1] : Value)) hr0) hr1; exact hcc)
                  · intro w hw b hb; exact hb.elim
                  · intro w hw; exact Eq.mp (congrArg (fun y => SlO tInt _ w none 0 y) hr0) (SlO.nil tInt w)
                · simp only [decide_eq_false_iff_not, Int.not_lt] at hc29
                  have hms := hc29
                  refine c_skip ?_
                  refine q_then ?_
                  refine c_seq ?_
                  refine c_region ?_
                  refine o_pure (p_assign (v := .int .i64 0) rfl) rfl rfl rfl ?_
                  refine o_nil ?_
                  refine q_then ?_
                  refine c_block ?_
                  refine c_loop (St := List Int × Option Addr × Nat × (Nat → Prop) × Nat)
                    (fun ⟨o2, ao2, co2, So2, j⟩ => [(0, .string s), (4, .slice ao2 o2.length co2), (5, .int .i64 ((i : Int) + 1)), (6, .int .i64 (i : Int)), (10, .int .i64 (Trc.num ((s.extract fr.toNat i).extract 0 cut.toNat))), (13, .bool (decide (cut < ((s.extract fr.toNat i).size : Int)) && (((byteAt (s.extract fr.toNat i) cut.toNat).toNat : Int) == 45))), (14, .int .i64 m2), (15, .int .i64 (j : Int))])
                    (fun ⟨o2, ao2, co2, So2, j⟩ => [own tInt So2 ao2 co2 o2, base w0])
                    (fun ⟨o2, ao2, co2, So2, j⟩ => Trc.AI out (Trc.pKey (s.extract fr.toNat i)) (Trc.pBy (s.extract fr.toNat i)) m2 o2 j)
                    (fun ⟨o2, ao2, co2, So2, j⟩ => m2.toNat - j)
                    (out, aout, cout, Sout, 0) ?_ (Sub.cons rfl (Sub.cons rfl (Sub.cons rfl (Sub.cons rfl (Sub.cons rfl (Sub.cons rfl (Sub.cons rfl (Sub.cons rfl (Sub.nil _))))))))) (fun _ hw => hw) ?_
                  · exact Trc.AI.start _ _ _ _
                  rintro ⟨o2, ao2, co2, So2, j⟩ hA K hK30
                  have hl2 := hA.len
                  have hj2 := hA.le
                  show SC _ _ Tryd.prog 156 w0 _ _ [(0, .string s), (4, .slice ao2 o2.length co2), (5, .int .i64 ((i : Int) + 1)), (6, .int .i64 (i : Int)), (10, .int .i64 (Trc.num ((s.extract fr.toNat i).extract 0 cut.toNat))), (13, .bool (decide (cut < ((s.extract fr.toNat i).size : Int)) && (((byteAt (s.extract fr.toNat i) cut.toNat).toNat : Int) == 45))), (14, .int .i64 m2), (15, .int .i64 (j : Int))] [own tInt So2 ao2 co2 o2, base w0]
                  refine c_seq ?_
                  refine c_seq ?_
                  refine c_region ?_
                  refine o_pure (p_move (v := .int .i64 (j : Int)) rfl) rfl rfl rfl ?_
                  refine o_pure (p_move (v := .int .i64 m2) rfl) rfl rfl rfl ?_
                  refine o_pure (p_lt (p := (j : Int)) (q := m2) rfl rfl) rfl rfl rfl ?_
                  refine o_nil ?_
                  refine q_then ?_
                  refine c_cond (b := decide ((j : Int) < m2)) rfl (fun hc31 => ?_) (fun hc31 => ?_)
                  · simp only [decide_eq_true_eq] at hc31
                    refine c_skip ?_
                    refine q_then ?_
                    refine c_seq ?_
                    refine c_block ?_
                    refine c_seq ?_
                    refine c_region ?_
                    refine o_pure (p_move (v := .bool (decide (cut < ((s.extract fr.toNat i).size : Int)) && (((byteAt (s.extract fr.toNat i) cut.toNat).toNat : Int) == 45))) rfl) rfl rfl rfl ?_
                    refine o_nil ?_
                    refine q_then ?_
                    refine c_cond (b := (decide (cut < ((s.extract fr.toNat i).size : Int)) && (((byteAt (s.extract fr.toNat i) cut.toNat).toNat : Int) == 45))) rfl (fun hc32 => ?_) (fun hc32 => ?_)
                    · simp only [Bool.and_eq_true, decide_eq_true_eq, beq_iff_eq] at hc32
                      refine c_region ?_
                      refine o_pure (p_move (v := .slice ao2 o2.length co2) rfl) rfl rfl rfl ?_
                      refine o_pure (p_move (v := .int .i64 (Trc.num ((s.extract fr.toNat i).extract 0 cut.toNat))) rfl) rfl rfl rfl ?_
                      refine o_pure (p_move (v := .int .i64 (j : Int)) rfl) rfl rfl rfl ?_
                      refine o_pure (p_addb (p := (Trc.num ((s.extract fr.toNat i).extract 0 cut.toNat))) (q := (j : Int)) rfl rfl (by omega)) rfl rfl rfl ?_
                      refine o_buildSlice (m := 1) (T := tInt) (L := [((Trc.num ((s.extract fr.toNat i).extract 0 cut.toNat)) + (j : Int))]) (vs := [.int .i64 ((Trc.num ((s.extract fr.toNat i).extract 0 cut.toNat)) + (j : Int))]) rfl rfl rfl rfl Tryd.underlying22 sz3 (by decide) ze3 rfl (by decide) rfl (fun S33 a34 => ?_)
                      refine o_append (i := 1) (L := o2) (M := [((Trc.num ((s.extract fr.toNat i).extract 0 cut.toNat)) + (j : Int))]) (T := tInt) rfl rfl rfl (rd_own (i := 0) rfl) Tryd.underlying22 Tryd.underlying22 (by intro k h; cases h) el3 (by intro z; simp [tInt, one1]) (by decide) (by first | omega | (simp only [List.length_cons, List.length_nil]; omega) | (simp only [List.length_append, List.length_cons, List.length_nil, List.length_take, List.length_drop]; omega)) rfl (fun a36 c37 S38 => ?_)
                      refine o_pure (p_assign (v := .slice a36 (o2 ++ [((Trc.num ((s.extract fr.toNat i).extract 0 cut.toNat)) + (j : Int))]).length c37) rfl) rfl rfl rfl ?_
                      refine o_nil ?_
                      refine q_block_normal (q_then ?_)
                      refine c_region ?_
                      refine o_pure (p_move (v := .int .i64 (j : Int)) rfl) rfl rfl rfl ?_
                      refine o_pure (p_addb (p := (j : Int)) (q := 1) rfl rfl (by omega)) rfl rfl rfl ?_
                      refine o_pure (p_assign (v := .int .i64 ((j : Int) + 1)) rfl) rfl rfl rfl ?_
                      refine o_nil ?_
                      refine q_round hK30 ((o2 ++ [((Trc.num ((s.extract fr.toNat i).extract 0 cut.toNat)) + (j : Int))]), a36, c37, S38, j + 1) ?_ ?_ ?_ ?_
                      · clear hK30
                        first | exact Trc.rw_rise hrw hjb hfm hrg hA (by omega) (by assumption) | exact Trc.rw_flat hrw hjb hfm hrg hA (by omega) (by assumption)
                      · (try dsimp only); omega
                      · exact Sub.cons rfl (Sub.cons rfl (Sub.cons rfl (Sub.cons rfl (Sub.cons rfl (Sub.cons rfl (Sub.cons rfl (Sub.cons rfl (Sub.nil _))))))))
                      · exact fun _ hw => HeapIs.pick hw [1, 2] (by decide) rfl
                    · simp only [Bool.and_eq_false_iff, decide_eq_false_iff_not, Int.not_lt, beq_eq_false_iff_ne, ne_eq] at hc32
                      refine c_region ?_
                      refine o_pure (p_move (v := .slice ao2 o2.length co2) rfl) rfl rfl rfl ?_
                      refine o_pure (p_move (v := .int .i64 (Trc.num ((s.extract fr.toNat i).extract 0 cut.toNat))) rfl) rfl rfl rfl ?_
                      refine o_buildSlice (m := 1) (T := tInt) (L := [(Trc.num ((s.extract fr.toNat i).extract 0 cut.toNat))]) (vs := [.int .i64 (Trc.num ((s.extract fr.toNat i).extract 0 cut.toNat))]) rfl rfl rfl rfl Tryd.underlying22 sz3 (by decide) ze3 rfl (by decide) rfl (fun S39 a40 => ?_)
                      refine o_append (i := 1) (L := o2) (M := [(Trc.num ((s.extract fr.toNat i).extract 0 cut.toNat))]) (T := tInt) rfl rfl rfl (rd_own (i := 0) rfl) Tryd.underlying22 Tryd.underlying22 (by intro k h; cases h) el3 (by intro z; simp [tInt, one1]) (by decide) (by first | omega | (simp only [List.length_cons, List.length_nil]; omega) | (simp only [List.length_append, List.length_cons, List.length_nil, List.length_take, List.length_drop]; omega)) rfl (fun a42 c43 S44 => ?_)
                      refine o_pure (p_assign (v := .slice a42 (o2 ++ [(Trc.num ((s.extract fr.toNat i).extract 0 cut.toNat))]).length c43) rfl) rfl rfl rfl ?_
                      refine o_nil ?_
                      refine q_block_normal (q_then ?_)
                      refine c_region ?_
                      refine o_pure (p_move (v := .int .i64 (j : Int)) rfl) rfl rfl rfl ?_
                      refine o_pure (p_addb (p := (j : Int)) (q := 1) rfl rfl (by omega)) rfl rfl rfl ?_
                      refine o_pure (p_assign (v := .int .i64 ((j : Int) + 1)) rfl) rfl rfl rfl ?_
                      refine o_nil ?_
                      refine q_round hK30 ((o2 ++ [(Trc.num ((s.extract fr.toNat i).extract 0 cut.toNat))]), a42, c43, S44, j + 1) ?_ ?_ ?_ ?_
                      · clear hK30
                        first | exact Trc.rw_rise hrw hjb hfm hrg hA (by omega) (by assumption) | exact Trc.rw_flat hrw hjb hfm hrg hA (by omega) (by assumption)
                      · (try dsimp only); omega
                      · exact Sub.cons rfl (Sub.cons rfl (Sub.cons rfl (Sub.cons rfl (Sub.cons rfl (Sub.cons rfl (Sub.cons rfl (Sub.cons rfl (Sub.nil _))))))))
                      · exact fun _ hw => HeapIs.pick hw [1, 2] (by decide) rfl
                  · simp only [decide_eq_false_iff_not, Int.not_lt] at hc31
                    refine c_exit ?_
                    refine q_then_exit (q_then_exit (q_block_exit (q_block_normal (q_then ?_))))
                    refine c_region ?_
                    refine o_pure (p_move (v := .int .i64 (i : Int)) rfl) rfl rfl rfl ?_
                    refine o_pure (p_addb (p := (i : Int)) (q := 1) rfl rfl (by omega)) rfl rfl rfl ?_
                    refine o_pure (p_assign (v := .int .i64 ((i : Int) + 1)) rfl) rfl rfl rfl ?_
                    refine o_nil ?_
                    refine q_round hK4 (o2, ao2, co2, So2, ((i : Int) + 1), i + 1) ?_ ?_ ?_ ?_
                    · clear hK4
                      first | exact hI.skip hsk | exact hI.next hil hsp he0 hm2 (by omega) hA (by omega)
                    · (try dsimp only); omega
                    · exact Sub.cons rfl (Sub.cons rfl (Sub.cons rfl (Sub.cons rfl (Sub.nil _))))
                    · exact fun _ hw => HeapIs.pick hw [0, 1] (by decide) rfl
      · simp only [decide_eq_false_iff_not, Int.not_le] at hc5
        have hend := hI.done (by omega)
        refine c_exit ?_
        refine q_then_exit (q_then_exit (q_block_exit (q_then ?_)))
        refine c_seq ?_
        refine c_region ?_
        refine o_pure (p_move (v := .slice aout out.length cout) rfl) rfl rfl rfl ?_
        refine o_pure (p_assign (v := .slice aout out.length cout) rfl) rfl rfl rfl ?_
        refine o_pure (p_assign (v := .int .i64 0) rfl) rfl rfl rfl ?_
        refine o_nil ?_
        refine q_then ?_
        refine c_ret ?_
        have hr0 : (out : List Int) = ((Trc.parse s).1) := by
          first | exact hend.1 | exact hend.2
        have hr1 : (0 : Int) = ((Trc.parse s).2) := by
          first | exact hend.1 | exact hend.2
        refine q_endM (p := (aout, cout)) Sout (rt2 rfl (r_tmp rfl) (r_tmp rfl)) (i := 1) rfl ?_ ?_ ?_
        · exact (by have hcc := congr (congrArg (fun (y0 : List Int) (y1 : Int) => (.tuple #[.slice aout y0.length cout, .int .i64 y1] : Value)) hr0) hr1; exact hcc)
        · exact fun w hw => hw.above (i := 1) (j := 0) (by decide) rfl rfl
        · intro w hw; exact Eq.mp (congrArg (fun y => SlO tInt _ w aout cout y) hr0) ((hw.at (i := 0) rfl).here)
end Go.Proofs.YtgkihbbeimhmbaaDoor

/- The walks, printed by a program from the translation and a specification. -/
namespace Go.Proofs.YtgkihbbeimhmbaaDoor
open Go.Sx Go.RowKit
set_option maxHeartbeats 8000000 in
set_option maxRecDepth 100000 in
theorem lineWrite_step (nrec : Nat) (IH : ∀ (l : List Int) (al : Option Addr) (cl : Nat) (hy1 : Lru.trace l = 0), l.length < nrec → Fn0 Tryd.prog 12 [.slice al l.length cl] (fun w => Rd tInt w al cl l) (.string (Trc.ofL (Trc.write l)))) (l : List Int) (al : Option Addr) (cl : Nat) (hy1 : Lru.trace l = 0) (hrec : l.length = nrec) : Fn0 Tryd.prog 12 [.slice al l.length cl] (fun w => Rd tInt w al cl l) (.string (Trc.ofL (Trc.write l))) := by
  refine fn0 (nt := 108) (F0 := [(0, .slice al l.length cl)]) Tryd.func12 rfl Tryd.ntmps12 rfl rfl (fun w0 hpre => ?_)
  have hl := hpre
  have hlhl := hl.2.1
  have hkk := (Trc.trace_ok.1 hy1).2
  have hl200 := (Trc.trace_ok.1 hy1).1
  have hk0 := Trc.key_bd hkk 0
  have hk1 := Trc.key_bd hkk 1
  have hk2 := Trc.key_bd hkk 2
  have z0 := Trc.decS_sz (n := l.getD 0 default) (by omega)
  have s42 : (ByteArray.mk #[42]).size = 1 := rfl
  have s45 : (ByteArray.mk #[45]).size = 1 := rfl
  have s32 : (ByteArray.mk #[32]).size = 1 := rfl
  have z3 := Trc.write_sz hy1 1
  refine c_seq ?_
  refine c_region ?_
  refine o_pure (p_assign (v := .string (ByteArray.mk #[])) rfl) rfl rfl rfl ?_
  refine o_nil ?_
  refine q_then ?_
  refine c_seq ?_
  refine c_seq ?_
  refine c_region ?_
  refine o_pure (p_move (v := .slice al l.length cl) rfl) rfl rfl rfl ?_
  refine o_pure (p_len_slice (len := l.length) rfl rfl Tryd.underlying22) rfl rfl rfl ?_
  refine o_pure (p_eq (p := (l.length : Int)) (q := 0) rfl rfl) rfl rfl rfl ?_
  refine o_nil ?_
  refine q_then ?_
  refine c_cond (b := ((l.length : Int) == 0)) rfl (fun hc1 => ?_) (fun hc1 => ?_)
  · simp only [beq_iff_eq] at hc1
    have hnil := hc1
    refine c_seq ?_
    refine c_region ?_
    refine o_pure (p_assign (v := .string (ByteArray.mk #[])) rfl) rfl rfl rfl ?_
    refine o_nil ?_
    refine q_then ?_
    refine c_ret ?_
    refine q_then_ret ?_
    have hr0 : ((ByteArray.mk #[]) : ByteArray) = (Trc.ofL (Trc.write l)) := by
      first | exact Trc.w_nil hnil | exact Trc.w_star1 hne hst hrn (by omega) | exact Trc.w_star0 hne hst hrn (by omega) | exact Trc.w_dash1 hne hst hds hrn (by omega) | exact Trc.w_dash0 hne hst hds hrn (by omega) | exact Trc.w_one1 hne hst hds (by omega) | exact Trc.w_one0 hne hst hds (by omega)
    refine q_end0 (v := .string (ByteArray.mk #[])) (rt1 rfl (r_tmp rfl)) (i := 0) rfl ?_
    exact (by have hcc := congrArg (fun (y0 : ByteArray) => (.string y0 : Value)) hr0; exact hcc)
  · simp only [beq_eq_false_iff_ne, ne_eq] at hc1
    have hne := Trc.len_ne hc1
    refine c_skip ?_
    refine q_then ?_
    refine c_seq ?_
    refine c_region ?_
    refine o_pure (p_assign (v := .int .i64 1) rfl) rfl rfl rfl ?_
    refine o_nil ?_
    refine q_then ?_
    refine c_seq ?_
    refine c_region ?_
    refine o_pure (p_move (v := .slice al l.length cl) rfl) rfl rfl rfl ?_
    refine o_pure (p_indexAddr (L := l) (T := tInt) (i := 0) rfl rfl (rd_base (i := 0) rfl hl) Tryd.underlying22 sz3 (by omega) (by omega)) rfl rfl rfl ?_
    refine o_pure (p_loadE1 (i := 0) (T := tInt) (L := l) (v := .int .i64 (l.getD 0 default)) rfl (rd_base (i := 0) rfl hl) (by first | assumption | omega) sh3 (congrArg tInt.enc (getd_at (by first | assumption | omega) default))) rfl rfl rfl ?_
    refine o_call0 (v := .string (Trc.decS (l.getD 0 default))) rfl (lineDigits_ok (l.getD 0 default) (by first | assumption | omega | exact Trc.tdiv_bd hy1 | exact Trc.tmod_bd hy1)) hf24 (fun _ _ => trivial) rfl ?_
    refine o_pure (p_assign (v := .string (Trc.decS (l.getD 0 default))) rfl) rfl rfl rfl ?_
    refine o_nil ?_
    refine q_then ?_
    refine c_seq ?_
    refine c_seq ?_
    refine c_draw hmix (by kernel_rfl) ?_
    refine w_pure (p_move (v := .slice al l.length cl) rfl) rfl rfl rfl ?_
    refine w_pure (p_len_slice (len := l.length) rfl rfl Tryd.underlying22) rfl rfl rfl ?_
    refine w_pure (p_gt (p := (l.length : Int)) (q := 1) rfl rfl) rfl rfl rfl ?_
    refine w_pure (p_move (v := .bool (decide (1 < (l.length : Int)))) rfl) rfl rfl rfl ?_
    refine w_and (p := 23) 8 ((l.getD 1 default) == (l.getD 0 default)) ?_ ?_ ?_
    · intro hb2 hk
      simp only [decide_eq_true_eq] at hb2
      refine w_unguard 15 rfl rfl ?_
      refine w_pure (p_move (v := .slice al l.length cl) rfl) rfl rfl rfl ?_
      refine w_unguard 15 rfl rfl ?_
      refine w_pure (p_indexAddr (L := l) (T := tInt) (i := 1) rfl rfl (rd_base (i := 0) rfl hl) Tryd.underlying22 sz3 (by omega) (by omega)) rfl rfl rfl ?_
      refine w_unguard 15 rfl rfl ?_
      refine w_pure (p_loadE1 (i := 1) (T := tInt) (L := l) (v := .int .i64 (l.getD 1 default)) rfl (rd_base (i := 0) rfl hl) (by first | assumption | omega) sh3 (congrArg tInt.enc (getd_at (by first | assumption | omega) default))) rfl rfl rfl ?_
      refine w_unguard 15 rfl rfl ?_
      refine w_pure (p_move (v := .slice al l.length cl) rfl) rfl rfl rfl ?_
      refine w_unguard 15 rfl rfl ?_
      refine w_pure (p_indexAddr (L := l) (T := tInt) (i := 0) rfl rfl (rd_base (i := 0) rfl hl) Tryd.underlying22 sz3 (by omega) (by omega)) rfl rfl rfl ?_
      refine w_unguard 15 rfl rfl ?_
      refine w_pure (p_loadE1 (i := 0) (T := tInt) (L := l) (v := .int .i64 (l.getD 0 default)) rfl (rd_base (i := 0) rfl hl) (by first | assumption | omega) sh3 (congrArg tInt.enc (getd_at (by first | assumption | omega) default))) rfl rfl rfl ?_
      refine w_unguard 15 rfl rfl ?_
      refine w_pure (p_eq (p := (l.getD 1 default)) (q := (l.getD 0 default)) rfl rfl) rfl rfl rfl ?_
      refine w_pure (p_pick_true (u := .bool ((l.getD 1 default) == (l.getD 0 default))) rfl rfl) rfl rfl rfl ?_
      exact w_sub (Sub.cons rfl (Sub.skip rfl (Sub.skip rfl (Sub.skip rfl (Sub.skip rfl (Sub.skip rfl (Sub.skip rfl (Sub.skip rfl (Sub.skip rfl (Sub.skip rfl (Sub.refl _))))))))))) hk
    · intro hb2 hk
      refine w_guard_no rfl 15 rfl rfl rfl rfl rfl ?_
      refine w_guard_no rfl 15 rfl rfl rfl rfl rfl ?_
      refine w_guard_no rfl 15 rfl rfl rfl rfl rfl ?_
      refine w_guard_no rfl 15 rfl rfl rfl rfl rfl ?_
      refine w_guard_no rfl 15 rfl rfl rfl rfl rfl ?_
      refine w_guard_no rfl 15 rfl rfl rfl rfl rfl ?_
      refine w_guard_no rfl 15 rfl rfl rfl rfl rfl ?_
      refine w_pure (p_pick_false (v := .bool false) rfl rfl) rfl rfl rfl ?_
      exact w_sub (Sub.cons rfl (Sub.skip rfl (Sub.skip rfl (Sub.skip rfl (Sub.skip rfl (Sub.skip rfl (Sub.skip rfl (Sub.skip rfl (Sub.skip rfl (Sub.skip rfl (Sub.refl _))))))))))) hk
    refine w_nil ?_
    refine q_then ?_
    refine c_cond (b := (decide (1 < (l.length : Int)) && ((l.getD 1 default) == (l.getD 0 default)))) rfl (fun hc3 => ?_) (fun hc3 => ?_)
    · simp only [Bool.and_eq_true, decide_eq_true_eq, beq_iff_eq] at hc3
      have hst := hc3
      refine c_seq ?_
      refine c_block ?_
      refine c_loop (St := Nat)
        (fun n => [(0, .slice al l.length cl), (3, .int .i64 (n : Int)), (4, .string (Trc.decS (l.getD 0 default)))])
        (fun n => [base w0])
        (fun n => Trc.RI l 0 n)
        (fun n => l.length - n)
        1 ?_ (Sub.cons rfl (Sub.cons rfl (Sub.cons rfl (Sub.nil _)))) (fun _ hw => hw) ?_
      · exact Trc.RI.start hne 0
      rintro n hI K hK4
      have hpo := hI.pos
      have hle := hI.le
      show SC _ _ Tryd.prog 108 w0 _ _ [(0, .slice al l.length cl), (3, .int .i64 (n : Int)), (4, .string (Trc.decS (l.getD 0 default)))] [base w0]
      refine c_seq ?_
      refine c_seq ?_
      refine c_draw hmix (by kernel_rfl) ?_
      refine w_pure (p_move (v := .int .i64 (n : Int)) rfl) rfl rfl rfl ?_
      refine w_pure (p_move (v := .slice al l.length cl) rfl) rfl rfl rfl ?_
      refine w_pure (p_len_slice (len := l.length) rfl rfl Tryd.underlying22) rfl rfl rfl ?_
      refine w_pure (p_lt (p := (n : Int)) (q := (l.length : Int)) rfl rfl) rfl rfl rfl ?_
      refine w_pure (p_move (v := .bool (decide ((n : Int) < (l.length : Int)))) rfl) rfl rfl rfl ?_
      refine w_and (p := 37) 9 ((l.getD n default) == (l.getD 0 default)) ?_ ?_ ?_
      · intro hb5 hk
        simp only [decide_eq_true_eq] at hb5
        refine w_unguard 28 rfl rfl ?_
        refine w_pure (p_move (v := .slice al l.length cl) rfl) rfl rfl rfl ?_
        refine w_unguard 28 rfl rfl ?_
        refine w_pure (p_move (v := .int .i64 (n : Int)) rfl) rfl rfl rfl ?_
        refine w_unguard 28 rfl rfl ?_
        refine w_pure (p_indexAddr (L := l) (T := tInt) (i := (n : Int)) rfl rfl (rd_base (i := 0) rfl hl) Tryd.underlying22 sz3 (by omega) (by omega)) rfl rfl rfl ?_
        refine w_unguard 28 rfl rfl ?_
        refine w_pure (p_loadE1 (i := n) (T := tInt) (L := l) (v := .int .i64 (l.getD n default)) rfl (rd_base (i := 0) rfl hl) (by first | assumption | omega) sh3 (congrArg tInt.enc (getd_at (by first | assumption | omega) default))) rfl rfl rfl ?_
        refine w_unguard 28 rfl rfl ?_
        refine w_pure (p_move (v := .slice al l.length cl) rfl) rfl rfl rfl ?_
        refine w_unguard 28 rfl rfl ?_
        refine w_pure (p_indexAddr (L := l) (T := tInt) (i := 0) rfl rfl (rd_base (i := 0) rfl hl) Tryd.underlying22 sz3 (by omega) (by omega)) rfl rfl rfl ?_
        refine w_unguard 28 rfl rfl ?_
        refine w_pure (p_loadE1 (i := 0) (T := tInt) (L := l) (v := .int .i64 (l.getD 0 default)) rfl (rd_base (i := 0) rfl hl) (by first | assumption | omega) sh3 (congrArg tInt.enc (getd_at (by first | assumption | omega) default))) rfl rfl rfl ?_
        refine w_unguard 28 rfl rfl ?_
        refine w_pure (p_eq (p := (l.getD n default)) (q := (l.getD 0 default)) rfl rfl) rfl rfl rfl ?_
        refine w_pure (p_pick_true (u := .bool ((l.getD n default) == (l.getD 0 default))) rfl rfl) rfl rfl rfl ?_
        exact w_sub (Sub.cons rfl (Sub.skip rfl (Sub.skip rfl (Sub.skip rfl (Sub.skip rfl (Sub.skip rfl (Sub.skip rfl (Sub.skip rfl (Sub.skip rfl (Sub.skip rfl (Sub.skip rfl (Sub.refl _)))))))))))) hk
      · intro hb5 hk
        refine w_guard_no rfl 28 rfl rfl rfl rfl rfl ?_
        refine w_guard_no rfl 28 rfl rfl rfl rfl rfl ?_
        refine w_guard_no rfl 28 rfl rfl rfl rfl rfl ?_
        refine w_guard_no rfl 28 rfl rfl rfl rfl rfl ?_
        refine w_guard_no rfl 28 rfl rfl rfl rfl rfl ?_
        refine w_guard_no rfl 28 rfl rfl rfl rfl rfl ?_
        refine w_guard_no rfl 28 rfl rfl rfl rfl rfl ?_
        refine w_guard_no rfl 28 rfl rfl rfl rfl rfl ?_
        refine w_pure (p_pick_false (v := .bool false) rfl rfl) rfl rfl rfl ?_
        exact w_sub (Sub.cons rfl (Sub.skip rfl (Sub.skip rfl (Sub.skip rfl (Sub.skip rfl (Sub.skip rfl (Sub.skip rfl (Sub.skip rfl (Sub.skip rfl (Sub.skip rfl (Sub.skip rfl (Sub.refl _)))))))))))) hk
      refine w_nil ?_
      refine q_then ?_
      refine c_cond (b := (decide ((n : Int) < (l.length : Int)) && ((l.getD n default) == (l.getD 0 default)))) rfl (fun hc6 => ?_) (fun hc6 => ?_)
      · simp only [Bool.and_eq_true, decide_eq_true_eq, beq_iff_eq] at hc6
        have hlp := hc6
        refine c_skip ?_
        refine q_then ?_
        refine c_block ?_
        refine c_region ?_
        refine o_pure (p_move (v := .int .i64 (n : Int)) rfl) rfl rfl rfl ?_
        refine o_pure (p_addb (p := (n : Int)) (q := 1) rfl rfl (by omega)) rfl rfl rfl ?_
        refine o_pure (p_assign (v := .int .i64 ((n : Int) + 1)) rfl) rfl rfl rfl ?_
        refine o_nil ?_
        refine q_block_normal ?_
        refine q_round hK4 (n + 1) ?_ ?_ ?_ ?_
        · clear hK4
          exact hI.next0 (by omega) hlp.2
        · (try dsimp only); omega
        · exact Sub.cons rfl (Sub.cons rfl (Sub.cons rfl (Sub.nil _)))
        · exact fun _ hw => HeapIs.pick hw [0] (by decide) rfl
      · simp only [Bool.and_eq_false_iff, decide_eq_false_iff_not, Int.not_lt, beq_eq_false_iff_ne, ne_eq] at hc6
        have hrn := hI.done0 hne hc6
        have z1 := Trc.decS_sz (n := (n : Int)) (by omega)
        have z2 := Trc.write_sz hy1 n
        refine c_exit ?_
        refine q_then_exit (q_then_exit (q_block_exit (q_then ?_)))
        refine c_region ?_
        refine o_pure (p_move (v := .string (Trc.decS (l.getD 0 default))) rfl) rfl rfl rfl ?_
        refine o_pure (p_move (v := .int .i64 (n : Int)) rfl) rfl rfl rfl ?_
        refine o_call0 (v := .string (Trc.decS (n : Int))) rfl (lineDigits_ok (n : Int) (by first | assumption | omega | exact Trc.tdiv_bd hy1 | exact Trc.tmod_bd hy1)) hf24 (fun _ _ => trivial) rfl ?_
        refine o_pure (p_addStr (s := (ByteArray.mk #[42])) (t := (Trc.decS (n : Int))) rfl rfl (by first | omega | (simp only [ByteArray.size_append]; omega))) rfl rfl rfl ?_
        refine o_pure (p_addStr (s := (Trc.decS (l.getD 0 default))) (t := ((ByteArray.mk #[42]) ++ (Trc.decS (n : Int)))) rfl rfl (by first | omega | (simp only [ByteArray.size_append]; omega))) rfl rfl rfl ?_
        refine o_pure (p_assign (v := .string ((Trc.decS (l.getD 0 default)) ++ ((ByteArray.mk #[42]) ++ (Trc.decS (n : Int))))) rfl) rfl rfl rfl ?_
        refine o_nil ?_
        refine q_then ?_
        refine c_seq ?_
        refine c_seq ?_
        refine c_region ?_
        refine o_pure (p_move (v := .int .i64 (n : Int)) rfl) rfl rfl rfl ?_
        refine o_pure (p_move (v := .slice al l.length cl) rfl) rfl rfl rfl ?_
        refine o_pure (p_len_slice (len := l.length) rfl rfl Tryd.underlying22) rfl rfl rfl ?_
        refine o_pure (p_lt (p := (n : Int)) (q := (l.length : Int)) rfl rfl) rfl rfl rfl ?_
        refine o_nil ?_
        refine q_then ?_
        refine c_cond (b := decide ((n : Int) < (l.length : Int))) rfl (fun hc7 => ?_) (fun hc7 => ?_)
        · simp only [decide_eq_true_eq] at hc7
          refine c_region ?_
          refine o_pure (p_move (v := .string ((Trc.decS (l.getD 0 default)) ++ ((ByteArray.mk #[42]) ++ (Trc.decS (n : Int))))) rfl) rfl rfl rfl ?_
          refine o_pure (p_move (v := .slice al l.length cl) rfl) rfl rfl rfl ?_
          refine o_pure (p_move (v := .int .i64 (n : Int)) rfl) rfl rfl rfl ?_
          refine o_pure (p_sliceL (L := l) (T := tInt) (l := (n : Int)) rfl rfl Tryd.underlying22 sz3 (by omega) (by omega) (rd_base (i := 0) rfl hl)) rfl rfl rfl ?_
          refine o_call0 (v := .string (Trc.ofL (Trc.write (l.drop n)))) rfl (IH (l.drop n) (sa al cl n tInt.k) (cl - n) (by first | assumption | exact Trc.parse_ok (by assumption) | exact Trc.trace_drop hy1 _) (by rw [List.length_drop]; omega)) hf12 (fun w hw => (rd_dropC (l := n) (rd_base (i := 0) rfl hl) (by omega)) w hw) rfl ?_
          refine o_pure (p_addStr (s := (ByteArray.mk #[32])) (t := (Trc.ofL (Trc.write (l.drop n)))) rfl rfl (by first | omega | (simp only [ByteArray.size_append]; omega))) rfl rfl rfl ?_
          refine o_pure (p_addStr (s := ((Trc.decS (l.getD 0 default)) ++ ((ByteArray.mk #[42]) ++ (Trc.decS (n : Int))))) (t := ((ByteArray.mk #[32]) ++ (Trc.ofL (Trc.write (l.drop n))))) rfl rfl (by first | omega | (simp only [ByteArray.size_append]; omega))) rfl rfl rfl ?_
          refine o_pure (p_assign (v := .string (((Trc.decS (l.getD 0 default)) ++ ((ByteArray.mk #[42]) ++ (Trc.decS (n : Int)))) ++ ((ByteArray.mk #[32]) ++ (Trc.ofL (Trc.write (l.drop n)))))) rfl) rfl rfl rfl ?_
          refine o_nil ?_
          refine q_then ?_
          refine c_seq ?_
          refine c_region ?_
          refine o_pure (p_move (v := .string (((Trc.decS (l.getD 0 default)) ++ ((ByteArray.mk #[42]) ++ (Trc.decS (n : Int)))) ++ ((ByteArray.mk #[32]) ++ (Trc.ofL (Trc.write (l.drop n)))))) rfl) rfl rfl rfl ?_
          refine o_pure (p_assign (v := .string (((Trc.decS (l.getD 0 default)) ++ ((ByteArray.mk #[42]) ++ (Trc.decS (n : Int)))) ++ ((ByteArray.mk #[32]) ++ (Trc.ofL (Trc.write (l.drop n)))))) rfl) rfl rfl rfl ?_
          refine o_nil ?_
          refine q_then ?_
          refine c_ret ?_
          have hr0 : ((((Trc.decS (l.getD 0 default)) ++ ((ByteArray.mk #[42]) ++ (Trc.decS (n : Int)))) ++ ((ByteArray.mk #[32]) ++ (Trc.ofL (Trc.write (l.drop n))))) : ByteArray) = (Trc.ofL (Trc.write l)) := by
            first | exact Trc.w_nil hnil | exact Trc.w_star1 hne hst hrn (by omega) | exact Trc.w_star0 hne hst hrn (by omega) | exact Trc.w_dash1 hne hst hds hrn (by omega) | exact Trc.w_dash0 hne hst hds hrn (by omega) | exact Trc.w_one1 hne hst hds (by omega) | exact Trc.w_one0 hne hst hds (by omega)
          refine q_end0 (v := .string (((Trc.decS (l.getD 0 default)) ++ ((ByteArray.mk #[42]) ++ (Trc.decS (n : Int)))) ++ ((ByteArray.mk #[32]) ++ (Trc.ofL (Trc.write (l.drop n)))))) (rt1 rfl (r_tmp rfl)) (i := 0) rfl ?_
          exact (by have hcc := congrArg (fun (y0 : ByteArray) => (.string y0 : Value)) hr0; exact hcc)
        · simp only [decide_eq_false_iff_not, Int.not_lt] at hc7
          refine c_skip ?_
          refine q_then ?_
          refine c_seq ?_
          refine c_region ?_
          refine o_pure (p_move (v := .string ((Trc.decS (l.getD 0 default)) ++ ((ByteArray.mk #[42]) ++ (Trc.decS (n : Int))))) rfl) rfl rfl rfl ?_
          refine o_pure (p_assign (v := .string ((Trc.decS (l.getD 0 default)) ++ ((ByteArray.mk #[42]) ++ (Trc.decS (n : Int))))) rfl) rfl rfl rfl ?_
          refine o_nil ?_
          refine q_then ?_
          refine c_ret ?_
          have hr0 : (((Trc.decS (l.getD 0 default)) ++ ((ByteArray.mk #[42]) ++ (Trc.decS (n : Int)))) : ByteArray) = (Trc.ofL (Trc.write l)) := by
            first | exact Trc.w_nil hnil | exact Trc.w_star1 hne hst hrn (by omega) | exact Trc.w_star0 hne hst hrn (by omega) | exact Trc.w_dash1 hne hst hds hrn (by omega) | exact Trc.w_dash0 hne hst hds hrn (by omega) | exact Trc.w_one1 hne hst hds (by omega) | exact Trc.w_one0 hne hst hds (by omega)
          refine q_end0 (v := .string ((Trc.decS (l.getD 0 default)) ++ ((ByteArray.mk #[42]) ++ (Trc.decS (n : Int))))) (rt1 rfl (r_tmp rfl)) (i := 0) rfl ?_
          exact (by have hcc := congrArg (fun (y0 : ByteArray) => (.string y0 : Value)) hr0; exact hcc)
    · simp only [Bool.and_eq_false_iff, decide_eq_false_iff_not, Int.not_lt, beq_eq_false_iff_ne, ne_eq] at hc3
      have hst := hc3
      refine c_seq ?_
      refine c_draw hmix (by kernel_rfl) ?_
      refine w_pure (p_move (v := .slice al l.length cl) rfl) rfl rfl rfl ?_
      refine w_pure (p_len_slice (len := l.length) rfl rfl Tryd.underlying22) rfl rfl rfl ?_
      refine w_pure (p_gt (p := (l.length : Int)) (q := 2) rfl rfl) rfl rfl rfl ?_
      refine w_pure (p_move (v := .bool (decide (2 < (l.length : Int)))) rfl) rfl rfl rfl ?_
      refine w_and (p := 57) 9 ((l.getD 1 default) == ((l.getD 0 default) + 1)) ?_ ?_ ?_
      · intro hb8 hk
        simp only [decide_eq_true_eq] at hb8
        refine w_unguard 48 rfl rfl ?_
        refine w_pure (p_move (v := .slice al l.length cl) rfl) rfl rfl rfl ?_
        refine w_unguard 48 rfl rfl ?_
        refine w_pure (p_indexAddr (L := l) (T := tInt) (i := 1) rfl rfl (rd_base (i := 0) rfl hl) Tryd.underlying22 sz3 (by omega) (by omega)) rfl rfl rfl ?_
        refine w_unguard 48 rfl rfl ?_
        refine w_pure (p_loadE1 (i := 1) (T := tInt) (L := l) (v := .int .i64 (l.getD 1 default)) rfl (rd_base (i := 0) rfl hl) (by first | assumption | omega) sh3 (congrArg tInt.enc (getd_at (by first | assumption | omega) default))) rfl rfl rfl ?_
        refine w_unguard 48 rfl rfl ?_
        refine w_pure (p_move (v := .slice al l.length cl) rfl) rfl rfl rfl ?_
        refine w_unguard 48 rfl rfl ?_
        refine w_pure (p_indexAddr (L := l) (T := tInt) (i := 0) rfl rfl (rd_base (i := 0) rfl hl) Tryd.underlying22 sz3 (by omega) (by omega)) rfl rfl rfl ?_
        refine w_unguard 48 rfl rfl ?_
        refine w_pure (p_loadE1 (i := 0) (T := tInt) (L := l) (v := .int .i64 (l.getD 0 default)) rfl (rd_base (i := 0) rfl hl) (by first | assumption | omega) sh3 (congrArg tInt.enc (getd_at (by first | assumption | omega) default))) rfl rfl rfl ?_
        refine w_unguard 48 rfl rfl ?_
        refine w_pure (p_addb (p := (l.getD 0 default)) (q := 1) rfl rfl (by omega)) rfl rfl rfl ?_
        refine w_unguard 48 rfl rfl ?_
        refine w_pure (p_eq (p := (l.getD 1 default)) (q := ((l.getD 0 default) + 1)) rfl rfl) rfl rfl rfl ?_
        refine w_pure (p_pick_true (u := .bool ((l.getD 1 default) == ((l.getD 0 default) + 1))) rfl rfl) rfl rfl rfl ?_
        exact w_sub (Sub.cons rfl (Sub.skip rfl (Sub.skip rfl (Sub.skip rfl (Sub.skip rfl (Sub.skip rfl (Sub.skip rfl (Sub.skip rfl (Sub.skip rfl (Sub.skip rfl (Sub.skip rfl (Sub.refl _)))))))))))) hk
      · intro hb8 hk
        refine w_guard_no rfl 48 rfl rfl rfl rfl rfl ?_
        refine w_guard_no rfl 48 rfl rfl rfl rfl rfl ?_
        refine w_guard_no rfl 48 rfl rfl rfl rfl rfl ?_
        refine w_guard_no rfl 48 rfl rfl rfl rfl rfl ?_
        refine w_guard_no rfl 48 rfl rfl rfl rfl rfl ?_
        refine w_guard_no rfl 48 rfl rfl rfl rfl rfl ?_
        refine w_guard_no rfl 48 rfl rfl rfl rfl rfl ?_
        refine w_guard_no rfl 48 rfl rfl rfl rfl rfl ?_
        refine w_pure (p_pick_false (v := .bool false) rfl rfl) rfl rfl rfl ?_
        exact w_sub (Sub.cons rfl (Sub.skip rfl (Sub.skip rfl (Sub.skip rfl (Sub.skip rfl (Sub.skip rfl (Sub.skip rfl (Sub.skip rfl (Sub.skip rfl (Sub.skip rfl (Sub.skip rfl (Sub.refl _)))))))))))) hk
      refine w_pure (p_move (v := .bool (decide (2 < (l.length : Int)) && ((l.getD 1 default) == ((l.getD 0 default) + 1)))) rfl) rfl rfl rfl ?_
      refine w_and (p := 67) 9 ((l.getD 2 default) == ((l.getD 0 default) + 2)) ?_ ?_ ?_
      · intro hb9 hk
        simp only [Bool.and_eq_true, decide_eq_true_eq, beq_iff_eq] at hb9
        refine w_unguard 58 rfl rfl ?_
        refine w_pure (p_move (v := .slice al l.length cl) rfl) rfl rfl rfl ?_
        refine w_unguard 58 rfl rfl ?_
        refine w_pure (p_indexAddr (L := l) (T := tInt) (i := 2) rfl rfl (rd_base (i := 0) rfl hl) Tryd.underlying22 sz3 (by omega) (by omega)) rfl rfl rfl ?_
        refine w_unguard 58 rfl rfl ?_
        refine w_pure (p_loadE1 (i := 2) (T := tInt) (L := l) (v := .int .i64 (l.getD 2 default)) rfl (rd_base (i := 0) rfl hl) (by first | assumption | omega) sh3 (congrArg tInt.enc (getd_at (by first | assumption | omega) default))) rfl rfl rfl ?_
        refine w_unguard 58 rfl rfl ?_
        refine w_pure (p_move (v := .slice al l.length cl) rfl) rfl rfl rfl ?_
        refine w_unguard 58 rfl rfl ?_
        refine w_pure (p_indexAddr (L := l) (T := tInt) (i := 0) rfl rfl (rd_base (i := 0) rfl hl) Tryd.underlying22 sz3 (by omega) (by omega)) rfl rfl rfl ?_
        refine w_unguard 58 rfl rfl ?_
        refine w_pure (p_loadE1 (i := 0) (T := tInt) (L := l) (v := .int .i64 (l.getD 0 default)) rfl (rd_base (i := 0) rfl hl) (by first | assumption | omega) sh3 (congrArg tInt.enc (getd_at (by first | assumption | omega) default))) rfl rfl rfl ?_
        refine w_unguard 58 rfl rfl ?_
        refine w_pure (p_addb (p := (l.getD 0 default)) (q := 2) rfl rfl (by omega)) rfl rfl rfl ?_
        refine w_unguard 58 rfl rfl ?_
        refine w_pure (p_eq (p := (l.getD 2 default)) (q := ((l.getD 0 default) + 2)) rfl rfl) rfl rfl rfl ?_
        refine w_pure (p_pick_true (u := .bool ((l.getD 2 default) == ((l.getD 0 default) + 2))) rfl rfl) rfl rfl rfl ?_
        exact w_sub (Sub.cons rfl (Sub.skip rfl (Sub.skip rfl (Sub.skip rfl (Sub.skip rfl (Sub.skip rfl (Sub.skip rfl (Sub.skip rfl (Sub.skip rfl (Sub.skip rfl (Sub.skip rfl (Sub.refl _)))))))))))) hk
      · intro hb9 hk
        refine w_guard_no rfl 58 rfl rfl rfl rfl rfl ?_
        refine w_guard_no rfl 58 rfl rfl rfl rfl rfl ?_
        refine w_guard_no rfl 58 rfl rfl rfl rfl rfl ?_
        refine w_guard_no rfl 58 rfl rfl rfl rfl rfl ?_
        refine w_guard_no rfl 58 rfl rfl rfl rfl rfl ?_
        refine w_guard_no rfl 58 rfl rfl rfl rfl rfl ?_
        refine w_guard_no rfl 58 rfl rfl rfl rfl rfl ?_
        refine w_guard_no rfl 58 rfl rfl rfl rfl rfl ?_
        refine w_pure (p_pick_false (v := .bool false) rfl rfl) rfl rfl rfl ?_
        exact w_sub (Sub.cons rfl (Sub.skip rfl (Sub.skip rfl (Sub.skip rfl (Sub.skip rfl (Sub.skip rfl (Sub.skip rfl (Sub.skip rfl (Sub.skip rfl (Sub.skip rfl (Sub.skip rfl (Sub.refl _)))))))))))) hk
      refine w_nil ?_
      refine q_then ?_
      refine c_cond (b := ((decide (2 < (l.length : Int)) && ((l.getD 1 default) == ((l.getD 0 default) + 1))) && ((l.getD 2 default) == ((l.getD 0 default) + 2)))) rfl (fun hc10 => ?_) (fun hc10 => ?_)
      · simp only [Bool.and_eq_true, decide_eq_true_eq, beq_iff_eq] at hc10
        have hds := hc10
        refine c_seq ?_
        refine c_block ?_
        refine c_loop (St := Nat)
          (fun n => [(0, .slice al l.length cl), (3, .int .i64 (n : Int)), (4, .string (Trc.decS (l.getD 0 default)))])
          (fun n => [base w0])
          (fun n => Trc.RI l 1 n)
          (fun n => l.length - n)
          1 ?_ (Sub.cons rfl (Sub.cons rfl (Sub.cons rfl (Sub.nil _)))) (fun _ hw => hw) ?_
        · exact Trc.RI.start hne 1
        rintro n hI K hK11
        have hpo := hI.pos
        have hle := hI.le
        show SC _ _ Tryd.prog 108 w0 _ _ [(0, .slice al l.length cl), (3, .int .i64 (n : Int)), (4, .string (Trc.decS (l.getD 0 default)))] [base w0]
        refine c_seq ?_
        refine c_seq ?_
        refine c_draw hmix (by kernel_rfl) ?_
        refine w_pure (p_move (v := .int .i64 (n : Int)) rfl) rfl rfl rfl ?_
        refine w_pure (p_move (v := .slice al l.length cl) rfl) rfl rfl rfl ?_
        refine w_pure (p_len_slice (len := l.length) rfl rfl Tryd.underlying22) rfl rfl rfl ?_
        refine w_pure (p_lt (p := (n : Int)) (q := (l.length : Int)) rfl rfl) rfl rfl rfl ?_
        refine w_pure (p_move (v := .bool (decide ((n : Int) < (l.length : Int)))) rfl) rfl rfl rfl ?_
        refine w_and (p := 83) 11 ((l.getD n default) == ((l.getD 0 default) + (n : Int))) ?_ ?_ ?_
        · intro hb12 hk
          simp only [decide_eq_true_eq] at hb12
          refine w_unguard 72 rfl rfl ?_
          refine w_pure (p_move (v := .slice al l.length cl) rfl) rfl rfl rfl ?_
          refine w_unguard 72 rfl rfl ?_
          refine w_pure (p_move (v := .int .i64 (n : Int)) rfl) rfl rfl rfl ?_
          refine w_unguard 72 rfl rfl ?_
          refine w_pure (p_indexAddr (L := l) (T := tInt) (i := (n : Int)) rfl rfl (rd_base (i := 0) rfl hl) Tryd.underlying22 sz3 (by omega) (by omega)) rfl rfl rfl ?_
          refine w_unguard 72 rfl rfl ?_
          refine w_pure (p_loadE1 (i := n) (T := tInt) (L := l) (v := .int .i64 (l.getD n default)) rfl (rd_base (i := 0) rfl hl) (by first | assumption | omega) sh3 (congrArg tInt.enc (getd_at (by first | assumption | omega) default))) rfl rfl rfl ?_
          refine w_unguard 72 rfl rfl ?_
          refine w_pure (p_move (v := .slice al l.length cl) rfl) rfl rfl rfl ?_
          refine w_unguard 72 rfl rfl ?_
          refine w_pure (p_indexAddr (L := l) (T := tInt) (i := 0) rfl rfl (rd_base (i := 0) rfl hl) Tryd.underlying22 sz3 (by omega) (by omega)) rfl rfl rfl ?_
          refine w_unguard 72 rfl rfl ?_
          refine w_pure (p_loadE1 (i := 0) (T := tInt) (L := l) (v := .int .i64 (l.getD 0 default)) rfl (rd_base (i := 0) rfl hl) (by first | assumption | omega) sh3 (congrArg tInt.enc (getd_at (by first | assumption | omega) default))) rfl rfl rfl ?_
          refine w_unguard 72 rfl rfl ?_
          refine w_pure (p_move (v := .int .i64 (n : Int)) rfl) rfl rfl rfl ?_
          refine w_unguard 72 rfl rfl ?_
          refine w_pure (p_addb (p := (l.getD 0 default)) (q := (n : Int)) rfl rfl (by omega)) rfl rfl rfl ?_
          refine w_unguard 72 rfl rfl ?_
          refine w_pure (p_eq (p := (l.getD n default)) (q := ((l.getD 0 default) + (n : Int))) rfl rfl) rfl rfl rfl ?_
          refine w_pure (p_pick_true (u := .bool ((l.getD n default) == ((l.getD 0 default) + (n : Int)))) rfl rfl) rfl rfl rfl ?_
          exact w_sub (Sub.cons rfl (Sub.skip rfl (Sub.skip rfl (Sub.skip rfl (Sub.skip rfl (Sub.skip rfl (Sub.skip rfl (Sub.skip rfl (Sub.skip rfl (Sub.skip rfl (Sub.skip rfl (Sub.skip rfl (Sub.skip rfl (Sub.refl _)))))))))))))) hk
        · intro hb12 hk
          refine w_guard_no rfl 72 rfl rfl rfl rfl rfl ?_
          refine w_guard_no rfl 72 rfl rfl rfl rfl rfl ?_
          refine w_guard_no rfl 72 rfl rfl rfl rfl rfl ?_
          refine w_guard_no rfl 72 rfl rfl rfl rfl rfl ?_
          refine w_guard_no rfl 72 rfl rfl rfl rfl rfl ?_
          refine w_guard_no rfl 72 rfl rfl rfl rfl rfl ?_
          refine w_guard_no rfl 72 rfl rfl rfl rfl rfl ?_
          refine w_guard_no rfl 72 rfl rfl rfl rfl rfl ?_
          refine w_guard_no rfl 72 rfl rfl rfl rfl rfl ?_
          refine w_guard_no rfl 72 rfl rfl rfl rfl rfl ?_
          refine w_pure (p_pick_false (v := .bool false) rfl rfl) rfl rfl rfl ?_
          exact w_sub (Sub.cons rfl (Sub.skip rfl (Sub.skip rfl (Sub.skip rfl (Sub.skip rfl (Sub.skip rfl (Sub.skip rfl (Sub.skip rfl (Sub.skip rfl (Sub.skip rfl (Sub.skip rfl (Sub.skip rfl (Sub.skip rfl (Sub.refl _)))))))))))))) hk
        refine w_nil ?_
        refine q_then ?_
        refine c_cond (b := (decide ((n : Int) < (l.length : Int)) && ((l.getD n default) == ((l.getD 0 default) + (n : Int))))) rfl (fun hc13 => ?_) (fun hc13 => ?_)
        · simp only [Bool.and_eq_true, decide_eq_true_eq, beq_iff_eq] at hc13
          have hlp := hc13
          refine c_skip ?_
          refine q_then ?_
          refine c_block ?_
          refine c_region ?_
          refine o_pure (p_move (v := .int .i64 (n : Int)) rfl) rfl rfl rfl ?_
          refine o_pure (p_addb (p := (n : Int)) (q := 1) rfl rfl (by omega)) rfl rfl rfl ?_
          refine o_pure (p_assign (v := .int .i64 ((n : Int) + 1)) rfl) rfl rfl rfl ?_
          refine o_nil ?_
          refine q_block_normal ?_
          refine q_round hK11 (n + 1) ?_ ?_ ?_ ?_
          · clear hK11
            exact hI.next1 (by omega) hlp.2
          · (try dsimp only); omega
          · exact Sub.cons rfl (Sub.cons rfl (Sub.cons rfl (Sub.nil _)))
          · exact fun _ hw => HeapIs.pick hw [0] (by decide) rfl
        · simp only [Bool.and_eq_false_iff, decide_eq_false_iff_not, Int.not_lt, beq_eq_false_iff_ne, ne_eq] at hc13
          have hrn := hI.done1 hne hc13
          have hrl := Trc.rise_bd hne hkk hrn
          have z1 := Trc.decS_sz (n := l.getD 0 default + (n : Int) - 1) (by omega)
          have z2 := Trc.write_sz hy1 n
          refine c_exit ?_
          refine q_then_exit (q_then_exit (q_block_exit (q_then ?_)))
          refine c_region ?_
          refine o_pure (p_move (v := .string (Trc.decS (l.getD 0 default))) rfl) rfl rfl rfl ?_
          refine o_pure (p_move (v := .slice al l.length cl) rfl) rfl rfl rfl ?_
          refine o_pure (p_indexAddr (L := l) (T := tInt) (i := 0) rfl rfl (rd_base (i := 0) rfl hl) Tryd.underlying22 sz3 (by omega) (by omega)) rfl rfl rfl ?_
          refine o_pure (p_loadE1 (i := 0) (T := tInt) (L := l) (v := .int .i64 (l.getD 0 default)) rfl (rd_base (i := 0) rfl hl) (by first | assumption | omega) sh3 (congrArg tInt.enc (getd_at (by first | assumption | omega) default))) rfl rfl rfl ?_
          refine o_pure (p_move (v := .int .i64 (n : Int)) rfl) rfl rfl rfl ?_
          refine o_pure (p_addb (p := (l.getD 0 default)) (q := (n : Int)) rfl rfl (by omega)) rfl rfl rfl ?_
          refine o_pure (p_subb (p := ((l.getD 0 default) + (n : Int))) (q := 1) rfl rfl (by omega)) rfl rfl rfl ?_
          refine o_call0 (v := .string (Trc.decS (((l.getD 0 default) + (n : Int)) - 1))) rfl (lineDigits_ok (((l.getD 0 default) + (n : Int)) - 1) (by first | assumption | omega | exact Trc.tdiv_bd hy1 | exact Trc.tmod_bd hy1)) hf24 (fun _ _ => trivial) rfl ?_
          refine o_pure (p_addStr (s := (ByteArray.mk #[45])) (t := (Trc.decS (((l.getD 0 default) + (n : Int)) - 1))) rfl rfl (by first | omega | (simp only [ByteArray.size_append]; omega))) rfl rfl rfl ?_
          refine o_pure (p_addStr (s := (Trc.decS (l.getD 0 default))) (t := ((ByteArray.mk #[45]) ++ (Trc.decS (((l.getD 0 default) + (n : Int)) - 1)))) rfl rfl (by first | omega | (simp only [ByteArray.size_append]; omega))) rfl rfl rfl ?_
          refine o_pure (p_assign (v := .string ((Trc.decS (l.getD 0 default)) ++ ((ByteArray.mk #[45]) ++ (Trc.decS (((l.getD 0 default) + (n : Int)) - 1))))) rfl) rfl rfl rfl ?_
          refine o_nil ?_
          refine q_then ?_
          refine c_seq ?_
          refine c_seq ?_
          refine c_region ?_
          refine o_pure (p_move (v := .int .i64 (n : Int)) rfl) rfl rfl rfl ?_
          refine o_pure (p_move (v := .slice al l.length cl) rfl) rfl rfl rfl ?_
          refine o_pure (p_len_slice (len := l.length) rfl rfl Tryd.underlying22) rfl rfl rfl ?_
          refine o_pure (p_lt (p := (n : Int)) (q := (l.length : Int)) rfl rfl) rfl rfl rfl ?_
          refine o_nil ?_
          refine q_then ?_
          refine c_cond (b := decide ((n : Int) < (l.length : Int))) rfl (fun hc14 => ?_) (fun hc14 => ?_)
          · simp only [decide_eq_true_eq] at hc14
            refine c_region ?_
            refine o_pure (p_move (v := .string ((Trc.decS (l.getD 0 default)) ++ ((ByteArray.mk #[45]) ++ (Trc.decS (((l.getD 0 default) + (n : Int)) - 1))))) rfl) rfl rfl rfl ?_
            refine o_pure (p_move (v := .slice al l.length cl) rfl) rfl rfl rfl ?_
            refine o_pure (p_move (v := .int .i64 (n : Int)) rfl) rfl rfl rfl ?_
            refine o_pure (p_sliceL (L := l) (T := tInt) (l := (n : Int)) rfl rfl Tryd.underlying22 sz3 (by omega) (by omega) (rd_base (i := 0) rfl hl)) rfl rfl rfl ?_
            refine o_call0 (v := .string (Trc.ofL (Trc.write (l.drop n)))) rfl (IH (l.drop n) (sa al cl n tInt.k) (cl - n) (by first | assumption | exact Trc.parse_ok (by assumption) | exact Trc.trace_drop hy1 _) (by rw [List.length_drop]; omega)) hf12 (fun w hw => (rd_dropC (l := n) (rd_base (i := 0) rfl hl) (by omega)) w hw) rfl ?_
            refine o_pure (p_addStr (s := (ByteArray.mk #[32])) (t := (Trc.ofL (Trc.write (l.drop n)))) rfl rfl (by first | omega | (simp only [ByteArray.size_append]; omega))) rfl rfl rfl ?_
            refine o_pure (p_addStr (s := ((Trc.decS (l.getD 0 default)) ++ ((ByteArray.mk #[45]) ++ (Trc.decS (((l.getD 0 default) + (n : Int)) - 1))))) (t := ((ByteArray.mk #[32]) ++ (Trc.ofL (Trc.write (l.drop n))))) rfl rfl (by first | omega | (simp only [ByteArray.size_append]; omega))) rfl rfl rfl ?_
            refine o_pure (p_assign (v := .string (((Trc.decS (l.getD 0 default)) ++ ((ByteArray.mk #[45]) ++ (Trc.decS (((l.getD 0 default) + (n : Int)) - 1)))) ++ ((ByteArray.mk #[32]) ++ (Trc.ofL (Trc.write (l.drop n)))))) rfl) rfl rfl rfl ?_
            refine o_nil ?_
            refine q_then ?_
            refine c_seq ?_
            refine c_region ?_
            refine o_pure (p_move (v := .string (((Trc.decS (l.getD 0 default)) ++ ((ByteArray.mk #[45]) ++ (Trc.decS (((l.getD 0 default) + (n : Int)) - 1)))) ++ ((ByteArray.mk #[32]) ++ (Trc.ofL (Trc.write (l.drop n)))))) rfl) rfl rfl rfl ?_
            refine o_pure (p_assign (v := .string (((Trc.decS (l.getD 0 default)) ++ ((ByteArray.mk #[45]) ++ (Trc.decS (((l.getD 0 default) + (n : Int)) - 1)))) ++ ((ByteArray.mk #[32]) ++ (Trc.ofL (Trc.write (l.drop n)))))) rfl) rfl rfl rfl ?_
            refine o_nil ?_
            refine q_then ?_
            refine c_ret ?_
            have hr0 : ((((Trc.decS (l.getD 0 default)) ++ ((ByteArray.mk #[45]) ++ (Trc.decS (((l.getD 0 default) + (n : Int)) - 1)))) ++ ((ByteArray.mk #[32]) ++ (Trc.ofL (Trc.write (l.drop n))))) : ByteArray) = (Trc.ofL (Trc.write l)) := by
              first | exact Trc.w_nil hnil | exact Trc.w_star1 hne hst hrn (by omega) | exact Trc.w_star0 hne hst hrn (by omega) | exact Trc.w_dash1 hne hst hds hrn (by omega) | exact Trc.w_dash0 hne hst hds hrn (by omega) | exact Trc.w_one1 hne hst hds (by omega) | exact Trc.w_one0 hne hst hds (by omega)
            refine q_end0 (v := .string (((Trc.decS (l.getD 0 default)) ++ ((ByteArray.mk #[45]) ++ (Trc.decS (((l.getD 0 default) + (n : Int)) - 1)))) ++ ((ByteArray.mk #[32]) ++ (Trc.ofL (Trc.write (l.drop n)))))) (rt1 rfl (r_tmp rfl)) (i := 0) rfl ?_
            exact (by have hcc := congrArg (fun (y0 : ByteArray) => (.string y0 : Value)) hr0; exact hcc)
          · simp only [decide_eq_false_iff_not, Int.not_lt] at hc14
            refine c_skip ?_
            refine q_then ?_
            refine c_seq ?_
            refine c_region ?_
            refine o_pure (p_move (v := .string ((Trc.decS (l.getD 0 default)) ++ ((ByteArray.mk #[45]) ++ (Trc.decS (((l.getD 0 default) + (n : Int)) - 1))))) rfl) rfl rfl rfl ?_
            refine o_pure (p_assign (v := .string ((Trc.decS (l.getD 0 default)) ++ ((ByteArray.mk #[45]) ++ (Trc.decS (((l.getD 0 default) + (n : Int)) - 1))))) rfl) rfl rfl rfl ?_
            refine o_nil ?_
            refine q_then ?_
            refine c_ret ?_
            have hr0 : (((Trc.decS (l.getD 0 default)) ++ ((ByteArray.mk #[45]) ++ (Trc.decS (((l.getD 0 default) + (n : Int)) - 1)))) : ByteArray) = (Trc.ofL (Trc.write l)) := by
              first | exact Trc.w_nil hnil | exact Trc.w_star1 hne hst hrn (by omega) | exact Trc.w_star0 hne hst hrn (by omega) | exact Trc.w_dash1 hne hst hds hrn (by omega) | exact Trc.w_dash0 hne hst hds hrn (by omega) | exact Trc.w_one1 hne hst hds (by omega) | exact Trc.w_one0 hne hst hds (by omega)
            refine q_end0 (v := .string ((Trc.decS (l.getD 0 default)) ++ ((ByteArray.mk #[45]) ++ (Trc.decS (((l.getD 0 default) + (n : Int)) - 1))))) (rt1 rfl (r_tmp rfl)) (i := 0) rfl ?_
            exact (by have hcc := congrArg (fun (y0 : ByteArray) => (.string y0 : Value)) hr0; exact hcc)
      · simp only [Bool.and_eq_false_iff, decide_eq_false_iff_not, Int.not_lt, beq_eq_false_iff_ne, ne_eq] at hc10
        have hds := hc10
        refine c_skip ?_
        refine q_then ?_
        refine c_seq ?_
        refine c_seq ?_
        refine c_region ?_
        refine o_pure (p_move (v := .int .i64 1) rfl) rfl rfl rfl ?_
        refine o_pure (p_move (v := .slice al l.length cl) rfl) rfl rfl rfl ?_
        refine o_pure (p_len_slice (len := l.length) rfl rfl Tryd.underlying22) rfl rfl rfl ?_
        refine o_pure (p_lt (p := 1) (q := (l.length : Int)) rfl rfl) rfl rfl rfl ?_
        refine o_nil ?_
        refine q_then ?_
        refine c_cond (b := decide (1 < (l.length : Int))) rfl (fun hc15 => ?_) (fun hc15 => ?_)
        · simp only [decide_eq_true_eq] at hc15
          refine c_region ?_
          refine o_pure (p_move (v := .string (Trc.decS (l.getD 0 default))) rfl) rfl rfl rfl ?_
          refine o_pure (p_move (v := .slice al l.length cl) rfl) rfl rfl rfl ?_
          refine o_pure (p_move (v := .int .i64 1) rfl) rfl rfl rfl ?_
          refine o_pure (p_sliceL (L := l) (T := tInt) (l := 1) rfl rfl Tryd.underlying22 sz3 (by omega) (by omega) (rd_base (i := 0) rfl hl)) rfl rfl rfl ?_
          refine o_call0 (v := .string (Trc.ofL (Trc.write (l.drop 1)))) rfl (IH (l.drop 1) (sa al cl 1 tInt.k) (cl - 1) (by first | assumption | exact Trc.parse_ok (by assumption) | exact Trc.trace_drop hy1 _) (by rw [List.length_drop]; omega)) hf12 (fun w hw => (rd_dropC (l := 1) (rd_base (i := 0) rfl hl) (by omega)) w hw) rfl ?_
          refine o_pure (p_addStr (s := (ByteArray.mk #[32])) (t := (Trc.ofL (Trc.write (l.drop 1)))) rfl rfl (by first | omega | (simp only [ByteArray.size_append]; omega))) rfl rfl rfl ?_
          refine o_pure (p_addStr (s := (Trc.decS (l.getD 0 default))) (t := ((ByteArray.mk #[32]) ++ (Trc.ofL (Trc.write (l.drop 1))))) rfl rfl (by first | omega | (simp only [ByteArray.size_append]; omega))) rfl rfl rfl ?_
          refine o_pure (p_assign (v := .string ((Trc.decS (l.getD 0 default)) ++ ((ByteArray.mk #[32]) ++ (Trc.ofL (Trc.write (l.drop 1)))))) rfl) rfl rfl rfl ?_
          refine o_nil ?_
          refine q_then ?_
          refine c_seq ?_
          refine c_region ?_
          refine o_pure (p_move (v := .string ((Trc.decS (l.getD 0 default)) ++ ((ByteArray.mk #[32]) ++ (Trc.ofL (Trc.write (l.drop 1)))))) rfl) rfl rfl rfl ?_
          refine o_pure (p_assign (v := .string ((Trc.decS (l.getD 0 default)) ++ ((ByteArray.mk #[32]) ++ (Trc.ofL (Trc.write (l.drop 1)))))) rfl) rfl rfl rfl ?_
          refine o_nil ?_
          refine q_then ?_
          refine c_ret ?_
          have hr0 : (((Trc.decS (l.getD 0 default)) ++ ((ByteArray.mk #[32]) ++ (Trc.ofL (Trc.write (l.drop 1))))) : ByteArray) = (Trc.ofL (Trc.write l)) := by
            first | exact Trc.w_nil hnil | exact Trc.w_star1 hne hst hrn (by omega) | exact Trc.w_star0 hne hst hrn (by omega) | exact Trc.w_dash1 hne hst hds hrn (by omega) | exact Trc.w_dash0 hne hst hds hrn (by omega) | exact Trc.w_one1 hne hst hds (by omega) | exact Trc.w_one0 hne hst hds (by omega)
          refine q_end0 (v := .string ((Trc.decS (l.getD 0 default)) ++ ((ByteArray.mk #[32]) ++ (Trc.ofL (Trc.write (l.drop 1)))))) (rt1 rfl (r_tmp rfl)) (i := 0) rfl ?_
          exact (by have hcc := congrArg (fun (y0 : ByteArray) => (.string y0 : Value)) hr0; exact hcc)
        · simp only [decide_eq_false_iff_not, Int.not_lt] at hc15
          refine c_skip ?_
          refine q_then ?_
          refine c_seq ?_
          refine c_region ?_
          refine o_pure (p_move (v := .string (Trc.decS (l.getD 0 default))) rfl) rfl rfl rfl ?_
          refine o_pure (p_assign (v := .string (Trc.decS (l.getD 0 default))) rfl) rfl rfl rfl ?_
          refine o_nil ?_
          refine q_then ?_
          refine c_ret ?_
          have hr0 : ((Trc.decS (l.getD 0 default)) : ByteArray) = (Trc.ofL (Trc.write l)) := by
            first | exact Trc.w_nil hnil | exact Trc.w_star1 hne hst hrn (by omega) | exact Trc.w_star0 hne hst hrn (by omega) | exact Trc.w_dash1 hne hst hds hrn (by omega) | exact Trc.w_dash0 hne hst hds hrn (by omega) | exact Trc.w_one1 hne hst hds (by omega) | exact Trc.w_one0 hne hst hds (by omega)
          refine q_end0 (v := .string (Trc.decS (l.getD 0 default))) (rt1 rfl (r_tmp rfl)) (i := 0) rfl ?_
          exact (by have hcc := congrArg (fun (y0 : ByteArray) => (.string y0 : Value)) hr0; exact hcc)
theorem lineWrite_ok (l : List Int) (al : Option Addr) (cl : Nat) (hy1 : Lru.trace l = 0) : Fn0 Tryd.prog 12 [.slice al l.length cl] (fun w => Rd tInt w al cl l) (.string (Trc.ofL (Trc.write l))) := by
  have key : ∀ (nr : Nat) (l : List Int) (al : Option Addr) (cl : Nat) (hy1 : Lru.trace l = 0), l.length = nr → Fn0 Tryd.prog 12 [.slice al l.length cl] (fun w => Rd tInt w al cl l) (.string (Trc.ofL (Trc.write l))) := fun nr => Nat.strongRecOn nr (fun nr ihr => fun l al cl hy1 hnr => lineWrite_step nr (fun l al cl hy1 hmr => ihr _ hmr l al cl hy1 rfl) l al cl hy1 hnr)
  exact key _ l al cl hy1 rfl
end Go.Proofs.YtgkihbbeimhmbaaDoor

/- The walks, printed by a program from the translation and a specification. -/
namespace Go.Proofs.YtgkihbbeimhmbaaDoor
open Go.Sx Go.RowKit
set_option maxHeartbeats 8000000 in
set_option maxRecDepth 100000 in
theorem traceSpec_ok (l : List Int) (al : Option Addr) (cl : Nat) (s : ByteArray) : Fn0 Tryd.prog 3 [.slice al l.length cl, .string s] (fun w => Rd tInt w al cl l ∧ MaxW w ∧ TabW w) (.bool true) := by
  refine fn0 (nt := 77) (F0 := [(0, .slice al l.length cl), (1, .string s)]) Tryd.func3 rfl Tryd.ntmps3 rfl rfl (fun w0 hpre => ?_)
  obtain ⟨hl, hMaxW, hTabW⟩ := hpre
  have hlhl := hl.2.1
  refine c_seq ?_
  refine c_region ?_
  refine o_pure (p_assign (v := .bool false) rfl) rfl rfl rfl ?_
  refine o_nil ?_
  refine q_then ?_
  refine c_seq ?_
  refine c_region ?_
  refine o_pure (p_move (v := .slice al l.length cl) rfl) rfl rfl rfl ?_
  refine o_call0 (v := .tuple #[.string (Trc.format l), .int .i64 (Lru.trace l)]) rfl (tformat_ok l al cl) hf7 (fun w hw => ⟨(rd_base (i := 0) rfl hl) w hw, pre_base (i := 0) rfl TabW_st hTabW w hw⟩) rfl ?_
  refine o_pure (p_move (v := .tuple #[.string (Trc.format l), .int .i64 (Lru.trace l)]) rfl) rfl rfl rfl ?_
  refine o_pure (p_extract (vs := [.string (Trc.format l), .int .i64 (Lru.trace l)]) (v := .string (Trc.format l)) rfl rfl) rfl rfl rfl ?_
  refine o_pure (p_extract (vs := [.string (Trc.format l), .int .i64 (Lru.trace l)]) (v := .int .i64 (Lru.trace l)) rfl rfl) rfl rfl rfl ?_
  refine o_pure (p_assign (v := .string (Trc.format l)) rfl) rfl rfl rfl ?_
  refine o_pure (p_assign (v := .int .i64 (Lru.trace l)) rfl) rfl rfl rfl ?_
  refine o_nil ?_
  refine q_then ?_
  refine c_seq ?_
  refine c_region ?_
  refine o_pure (p_move (v := .string s) rfl) rfl rfl rfl ?_
  refine o_callM rfl (tparse_ok s) hf8 (fun w hw => pre_base (i := 0) rfl MaxW_st hMaxW w hw) rfl (fun _ _ _ _ ha hA => SlO.agree ha hA) ?_
  rintro ⟨a3, c4⟩ S1
  refine o_know (fun w hw => own_len (i := 0) (T := tInt) hw rfl) (fun hlr5 => ?_)
  refine o_pure (p_move (v := .tuple #[.slice a3 ((Trc.parse s).1).length c4, .int .i64 ((Trc.parse s).2)]) rfl) rfl rfl rfl ?_
  refine o_pure (p_extract (vs := [.slice a3 ((Trc.parse s).1).length c4, .int .i64 ((Trc.parse s).2)]) (v := .slice a3 ((Trc.parse s).1).length c4) rfl rfl) rfl rfl rfl ?_
  refine o_pure (p_extract (vs := [.slice a3 ((Trc.parse s).1).length c4, .int .i64 ((Trc.parse s).2)]) (v := .int .i64 ((Trc.parse s).2)) rfl rfl) rfl rfl rfl ?_
  refine o_pure (p_assign (v := .slice a3 ((Trc.parse s).1).length c4) rfl) rfl rfl rfl ?_
  refine o_pure (p_assign (v := .int .i64 ((Trc.parse s).2)) rfl) rfl rfl rfl ?_
  refine o_nil ?_
  refine q_then ?_
  refine c_seq ?_
  refine c_region ?_
  refine o_pure (p_move (v := .string s) rfl) rfl rfl rfl ?_
  refine o_call0 (v := .tuple #[.string (Trc.compact s), .int .i64 ((Trc.parse s).2)]) rfl (tcompact_ok s) hf9 (fun w hw => ⟨pre_base (i := 1) rfl MaxW_st hMaxW w hw, pre_base (i := 1) rfl TabW_st hTabW w hw⟩) rfl ?_
  refine o_pure (p_move (v := .tuple #[.string (Trc.compact s), .int .i64 ((Trc.parse s).2)]) rfl) rfl rfl rfl ?_
  refine o_pure (p_extract (vs := [.string (Trc.compact s), .int .i64 ((Trc.parse s).2)]) (v := .string (Trc.compact s)) rfl rfl) rfl rfl rfl ?_
  refine o_pure (p_extract (vs := [.string (Trc.compact s), .int .i64 ((Trc.parse s).2)]) (v := .int .i64 ((Trc.parse s).2)) rfl rfl) rfl rfl rfl ?_
  refine o_pure (p_assign (v := .string (Trc.compact s)) rfl) rfl rfl rfl ?_
  refine o_pure (p_assign (v := .int .i64 ((Trc.parse s).2)) rfl) rfl rfl rfl ?_
  refine o_nil ?_
  refine q_then ?_
  refine c_seq ?_
  refine c_region ?_
  refine o_pure (p_move (v := .slice al l.length cl) rfl) rfl rfl rfl ?_
  refine o_call0 (v := .int .i64 (Lru.trace l)) rfl (traceCheck_ok l al cl) hf10 (fun w hw => (rd_base (i := 1) rfl hl) w hw) rfl ?_
  refine o_pure (p_assign (v := .int .i64 (Lru.trace l)) rfl) rfl rfl rfl ?_
  refine o_nil ?_
  refine q_then ?_
  refine c_seq ?_
  refine c_region ?_
  refine o_pure (p_move (v := .string s) rfl) rfl rfl rfl ?_
  refine o_callM rfl (lineRead_ok s) hf11 (fun _ _ => trivial) rfl (fun _ _ _ _ ha hA => SlO.agree ha hA) ?_
  rintro ⟨a8, c9⟩ S6
  refine o_know (fun w hw => own_len (i := 0) (T := tInt) hw rfl) (fun hlr10 => ?_)
  refine o_pure (p_move (v := .tuple #[.slice a8 ((Trc.parse s).1).length c9, .int .i64 ((Trc.parse s).2)]) rfl) rfl rfl rfl ?_
  refine o_pure (p_extract (vs := [.slice a8 ((Trc.parse s).1).length c9, .int .i64 ((Trc.parse s).2)]) (v := .slice a8 ((Trc.parse s).1).length c9) rfl rfl) rfl rfl rfl ?_
  refine o_pure (p_extract (vs := [.slice a8 ((Trc.parse s).1).length c9, .int .i64 ((Trc.parse s).2)]) (v := .int .i64 ((Trc.parse s).2)) rfl rfl) rfl rfl rfl ?_
  refine o_pure (p_assign (v := .slice a8 ((Trc.parse s).1).length c9) rfl) rfl rfl rfl ?_
  refine o_pure (p_assign (v := .int .i64 ((Trc.parse s).2)) rfl) rfl rfl rfl ?_
  refine o_nil ?_
  refine q_then ?_
  refine c_seq ?_
  refine c_region ?_
  refine o_pure (p_assign (v := .string (ByteArray.mk #[])) rfl) rfl rfl rfl ?_
  refine o_pure (p_assign (v := .string (ByteArray.mk #[])) rfl) rfl rfl rfl ?_
  refine o_nil ?_
  refine q_then ?_
  refine c_seq ?_
  refine c_seq ?_
  refine c_region ?_
  refine o_pure (p_move (v := .int .i64 (Lru.trace l)) rfl) rfl rfl rfl ?_
  refine o_pure (p_eq (p := (Lru.trace l)) (q := 0) rfl rfl) rfl rfl rfl ?_
  refine o_nil ?_
  refine q_then ?_
  refine c_cond (b := ((Lru.trace l) == 0)) rfl (fun hc11 => ?_) (fun hc11 => ?_)
  · simp only [beq_iff_eq] at hc11
    have hx := hc11
    refine c_region ?_
    refine o_pure (p_move (v := .slice al l.length cl) rfl) rfl rfl rfl ?_
    refine o_call0 (v := .string (Trc.ofL (Trc.write l))) rfl (lineWrite_ok l al cl (by first | assumption | exact Trc.parse_ok (by assumption) | exact Trc.trace_drop hy1 _)) hf12 (fun w hw => (rd_base (i := 2) rfl hl) w hw) rfl ?_
    refine o_pure (p_assign (v := .string (Trc.ofL (Trc.write l))) rfl) rfl rfl rfl ?_
    refine o_nil ?_
    refine q_then ?_
    refine c_seq ?_
    refine c_seq ?_
    refine c_region ?_
    refine o_pure (p_move (v := .int .i64 ((Trc.parse s).2)) rfl) rfl rfl rfl ?_
    refine o_pure (p_eq (p := ((Trc.parse s).2)) (q := 0) rfl rfl) rfl rfl rfl ?_
    refine o_nil ?_
    refine q_then ?_
    refine c_cond (b := (((Trc.parse s).2) == 0)) rfl (fun hc12 => ?_) (fun hc12 => ?_)
    · simp only [beq_iff_eq] at hc12
      have hz := hc12
      refine c_region ?_
      refine o_pure (p_move (v := .slice a8 ((Trc.parse s).1).length c9) rfl) rfl rfl rfl ?_
      refine o_call0 (v := .string (Trc.ofL (Trc.write ((Trc.parse s).1)))) rfl (lineWrite_ok ((Trc.parse s).1) a8 c9 (by first | assumption | exact Trc.parse_ok (by assumption) | exact Trc.trace_drop hy1 _)) hf12 (fun w hw => (rd_own (i := 0) rfl) w hw) rfl ?_
      refine o_pure (p_assign (v := .string (Trc.ofL (Trc.write ((Trc.parse s).1)))) rfl) rfl rfl rfl ?_
      refine o_nil ?_
      refine q_then ?_
      refine c_seq ?_
      refine c_region ?_
      refine o_call0 (v := .bool true) rfl (linesBegun_ok ) hf13 (fun w hw => ⟨pre_base (i := 2) rfl MaxW_st hMaxW w hw, pre_base (i := 2) rfl TabW_st hTabW w hw⟩) rfl ?_
      refine o_pure (p_move (v := .bool true) rfl) rfl rfl rfl ?_
      refine o_unguard 47 rfl rfl ?_
      refine o_pure (p_move (v := .string (Trc.format l)) rfl) rfl rfl rfl ?_
      refine o_unguard 47 rfl rfl ?_
      refine o_pure (p_move (v := .string (Trc.ofL (Trc.write l))) rfl) rfl rfl rfl ?_
      refine o_unguard 47 rfl rfl ?_
      refine o_pure (p_eqStr (s := (Trc.format l)) (t := (Trc.ofL (Trc.write l))) rfl rfl) rfl rfl rfl ?_
      refine o_pure (p_pick_true (u := .bool (decide ((Trc.format l) = (Trc.ofL (Trc.write l))))) rfl rfl) rfl rfl rfl ?_
      refine o_pure (p_move (v := .bool (decide ((Trc.format l) = (Trc.ofL (Trc.write l))))) rfl) rfl rfl rfl ?_
      refine o_and (p := 56) 4 ((Lru.trace l) == (Lru.trace l)) ?_ ?_ ?_
      · intro hb13 hk
        simp only [decide_eq_true_eq] at hb13
        refine o_unguard 52 rfl rfl ?_
        refine o_pure (p_move (v := .int .i64 (Lru.trace l)) rfl) rfl rfl rfl ?_
        refine o_unguard 52 rfl rfl ?_
        refine o_pure (p_move (v := .int .i64 (Lru.trace l)) rfl) rfl rfl rfl ?_
        refine o_unguard 52 rfl rfl ?_
        refine o_pure (p_eq (p := (Lru.trace l)) (q := (Lru.trace l)) rfl rfl) rfl rfl rfl ?_
        refine o_pure (p_pick_true (u := .bool ((Lru.trace l) == (Lru.trace l))) rfl rfl) rfl rfl rfl ?_
        exact o_sub (Sub.cons rfl (Sub.skip rfl (Sub.skip rfl (Sub.skip rfl (Sub.skip rfl (Sub.skip rfl (Sub.refl _))))))) hk
      · intro hb13 hk
        refine o_guard_no rfl 52 rfl rfl rfl rfl rfl ?_
        refine o_guard_no rfl 52 rfl rfl rfl rfl rfl ?_
        refine o_guard_no rfl 52 rfl rfl rfl rfl rfl ?_
        refine o_pure (p_pick_false (v := .bool false) rfl rfl) rfl rfl rfl ?_
        exact o_sub (Sub.cons rfl (Sub.skip rfl (Sub.skip rfl (Sub.skip rfl (Sub.skip rfl (Sub.skip rfl (Sub.refl _))))))) hk
      refine o_pure (p_move (v := .bool (decide ((Trc.format l) = (Trc.ofL (Trc.write l))) && ((Lru.trace l) == (Lru.trace l)))) rfl) rfl rfl rfl ?_
      refine o_and (p := 61) 4 (Ref.sameInts ((Trc.parse s).1) ((Trc.parse s).1)) ?_ ?_ ?_
      · intro hb14 hk
        simp only [Bool.and_eq_true, decide_eq_true_eq, beq_iff_eq] at hb14
        refine o_unguard 57 rfl rfl ?_
        refine o_pure (p_move (v := .slice a3 ((Trc.parse s).1).length c4) rfl) rfl rfl rfl ?_
        refine o_unguard 57 rfl rfl ?_
        refine o_pure (p_move (v := .slice a8 ((Trc.parse s).1).length c9) rfl) rfl rfl rfl ?_
        refine o_unguard 57 rfl rfl ?_
        refine o_call0 (v := .bool (Ref.sameInts ((Trc.parse s).1) ((Trc.parse s).1))) rfl (sameInts_ok ((Trc.parse s).1) a3 c4 ((Trc.parse s).1) a8 c9) hf14 (fun w hw => ⟨(rd_own (i := 1) rfl) w hw, (rd_own (i := 0) rfl) w hw⟩) rfl ?_
        refine o_pure (p_pick_true (u := .bool (Ref.sameInts ((Trc.parse s).1) ((Trc.parse s).1))) rfl rfl) rfl rfl rfl ?_
        exact o_sub (Sub.cons rfl (Sub.skip rfl (Sub.skip rfl (Sub.skip rfl (Sub.skip rfl (Sub.skip rfl (Sub.refl _))))))) hk
      · intro hb14 hk
        refine o_guard_no rfl 57 rfl rfl rfl rfl rfl ?_
        refine o_guard_no rfl 57 rfl rfl rfl rfl rfl ?_
        refine o_guard_no rfl 57 rfl rfl rfl rfl rfl ?_
        refine o_pure (p_pick_false (v := .bool false) rfl rfl) rfl rfl rfl ?_
        exact o_sub (Sub.cons rfl (Sub.skip rfl (Sub.skip rfl (Sub.skip rfl (Sub.skip rfl (Sub.skip rfl (Sub.refl _))))))) hk
      refine o_pure (p_move (v := .bool ((decide ((Trc.format l) = (Trc.ofL (Trc.write l))) && ((Lru.trace l) == (Lru.trace l))) && (Ref.sameInts ((Trc.parse s).1) ((Trc.parse s).1)))) rfl) rfl rfl rfl ?_
      refine o_and (p := 66) 4 (((Trc.parse s).2) == ((Trc.parse s).2)) ?_ ?_ ?_
      · intro hb15 hk
        simp only [Bool.and_eq_true, decide_eq_true_eq, beq_iff_eq] at hb15
        refine o_unguard 62 rfl rfl ?_
        refine o_pure (p_move (v := .int .i64 ((Trc.parse s).2)) rfl) rfl rfl rfl ?_
        refine o_unguard 62 rfl rfl ?_
        refine o_pure (p_move (v := .int .i64 ((Trc.parse s).2)) rfl) rfl rfl rfl ?_
        refine o_unguard 62 rfl rfl ?_
        refine o_pure (p_eq (p := ((Trc.parse s).2)) (q := ((Trc.parse s).2)) rfl rfl) rfl rfl rfl ?_
        refine o_pure (p_pick_true (u := .bool (((Trc.parse s).2) == ((Trc.parse s).2))) rfl rfl) rfl rfl rfl ?_
        exact o_sub (Sub.cons rfl (Sub.skip rfl (Sub.skip rfl (Sub.skip rfl (Sub.skip rfl (Sub.skip rfl (Sub.refl _))))))) hk
      · intro hb15 hk
        refine o_guard_no rfl 62 rfl rfl rfl rfl rfl ?_
        refine o_guard_no rfl 62 rfl rfl rfl rfl rfl ?_
        refine o_guard_no rfl 62 rfl rfl rfl rfl rfl ?_
        refine o_pure (p_pick_false (v := .bool false) rfl rfl) rfl rfl rfl ?_
        exact o_sub (Sub.cons rfl (Sub.skip rfl (Sub.skip rfl (Sub.skip rfl (Sub.skip rfl (Sub.skip rfl (Sub.refl _))))))) hk
      refine o_pure (p_move (v := .bool (((decide ((Trc.format l) = (Trc.ofL (Trc.write l))) && ((Lru.trace l) == (Lru.trace l))) && (Ref.sameInts ((Trc.parse s).1) ((Trc.parse s).1))) && (((Trc.parse s).2) == ((Trc.parse s).2)))) rfl) rfl rfl rfl ?_
      refine o_and (p := 71) 4 (decide ((Trc.compact s) = (Trc.ofL (Trc.write ((Trc.parse s).1))))) ?_ ?_ ?_
      · intro hb16 hk
        simp only [Bool.and_eq_true, decide_eq_true_eq, beq_iff_eq] at hb16
        refine o_unguard 67 rfl rfl ?_
        refine o_pure (p_move (v := .string (Trc.compact s)) rfl) rfl rfl rfl ?_
        refine o_unguard 67 rfl rfl ?_
        refine o_pure (p_move (v := .string (Trc.ofL (Trc.write ((Trc.parse s).1)))) rfl) rfl rfl rfl ?_
        refine o_unguard 67 rfl rfl ?_
        refine o_pure (p_eqStr (s := (Trc.compact s)) (t := (Trc.ofL (Trc.write ((Trc.parse s).1)))) rfl rfl) rfl rfl rfl ?_
        refine o_pure (p_pick_true (u := .bool (decide ((Trc.compact s) = (Trc.ofL (Trc.write ((Trc.parse s).1)))))) rfl rfl) rfl rfl rfl ?_
        exact o_sub (Sub.cons rfl (Sub.skip rfl (Sub.skip rfl (Sub.skip rfl (Sub.skip rfl (Sub.skip rfl (Sub.refl _))))))) hk
      · intro hb16 hk
        refine o_guard_no rfl 67 rfl rfl rfl rfl rfl ?_
        refine o_guard_no rfl 67 rfl rfl rfl rfl rfl ?_
        refine o_guard_no rfl 67 rfl rfl rfl rfl rfl ?_
        refine o_pure (p_pick_false (v := .bool false) rfl rfl) rfl rfl rfl ?_
        exact o_sub (Sub.cons rfl (Sub.skip rfl (Sub.skip rfl (Sub.skip rfl (Sub.skip rfl (Sub.skip rfl (Sub.refl _))))))) hk
      refine o_pure (p_move (v := .bool ((((decide ((Trc.format l) = (Trc.ofL (Trc.write l))) && ((Lru.trace l) == (Lru.trace l))) && (Ref.sameInts ((Trc.parse s).1) ((Trc.parse s).1))) && (((Trc.parse s).2) == ((Trc.parse s).2))) && decide ((Trc.compact s) = (Trc.ofL (Trc.write ((Trc.parse s).1)))))) rfl) rfl rfl rfl ?_
      refine o_and (p := 76) 4 (((Trc.parse s).2) == ((Trc.parse s).2)) ?_ ?_ ?_
      · intro hb17 hk
        simp only [Bool.and_eq_true, decide_eq_true_eq, beq_iff_eq] at hb17
        refine o_unguard 72 rfl rfl ?_
        refine o_pure (p_move (v := .int .i64 ((Trc.parse s).2)) rfl) rfl rfl rfl ?_
        refine o_unguard 72 rfl rfl ?_
        refine o_pure (p_move (v := .int .i64 ((Trc.parse s).2)) rfl) rfl rfl rfl ?_
        refine o_unguard 72 rfl rfl ?_
        refine o_pure (p_eq (p := ((Trc.parse s).2)) (q := ((Trc.parse s).2)) rfl rfl) rfl rfl rfl ?_
        refine o_pure (p_pick_true (u := .bool (((Trc.parse s).2) == ((Trc.parse s).2))) rfl rfl) rfl rfl rfl ?_
        exact o_sub (Sub.cons rfl (Sub.skip rfl (Sub.skip rfl (Sub.skip rfl (Sub.skip rfl (Sub.skip rfl (Sub.refl _))))))) hk
      · intro hb17 hk
        refine o_guard_no rfl 72 rfl rfl rfl rfl rfl ?_
        refine o_guard_no rfl 72 rfl rfl rfl rfl rfl ?_
        refine o_guard_no rfl 72 rfl rfl rfl rfl rfl ?_
        refine o_pure (p_pick_false (v := .bool false) rfl rfl) rfl rfl rfl ?_
        exact o_sub (Sub.cons rfl (Sub.skip rfl (Sub.skip rfl (Sub.skip rfl (Sub.skip rfl (Sub.skip rfl (Sub.refl _))))))) hk
      refine o_pure (p_assign (v := .bool (((((decide ((Trc.format l) = (Trc.ofL (Trc.write l))) && ((Lru.trace l) == (Lru.trace l))) && (Ref.sameInts ((Trc.parse s).1) ((Trc.parse s).1))) && (((Trc.parse s).2) == ((Trc.parse s).2))) && decide ((Trc.compact s) = (Trc.ofL (Trc.write ((Trc.parse s).1))))) && (((Trc.parse s).2) == ((Trc.parse s).2)))) rfl) rfl rfl rfl ?_
      refine o_nil ?_
      refine q_then ?_
      refine c_ret ?_
      have hr0 : ((((((decide ((Trc.format l) = (Trc.ofL (Trc.write l))) && ((Lru.trace l) == (Lru.trace l))) && (Ref.sameInts ((Trc.parse s).1) ((Trc.parse s).1))) && (((Trc.parse s).2) == ((Trc.parse s).2))) && decide ((Trc.compact s) = (Trc.ofL (Trc.write ((Trc.parse s).1))))) && (((Trc.parse s).2) == ((Trc.parse s).2))) : Bool) = true := by
        first | exact Trc.ts (Trc.fmt_ok hx) (Trc.cmp_ok hz) | exact Trc.ts (Trc.fmt_ok hx) (Trc.cmp_bad hz) | exact Trc.ts (Trc.fmt_bad hx).symm (Trc.cmp_ok hz) | exact Trc.ts (Trc.fmt_bad hx).symm (Trc.cmp_bad hz)
      refine q_end0 (v := .bool (((((decide ((Trc.format l) = (Trc.ofL (Trc.write l))) && ((Lru.trace l) == (Lru.trace l))) && (Ref.sameInts ((Trc.parse s).1) ((Trc.parse s).1))) && (((Trc.parse s).2) == ((Trc.parse s).2))) && decide ((Trc.compact s) = (Trc.ofL (Trc.write ((Trc.parse s).1))))) && (((Trc.parse s).2) == ((Trc.parse s).2)))) (rt1 rfl (r_tmp rfl)) (i := 2) rfl ?_
      exact (by have hcc := congrArg (fun (y0 : Bool) => (.bool y0 : Value)) hr0; exact hcc)
    · simp only [beq_eq_false_iff_ne, ne_eq] at hc12
      have hz := hc12
      refine c_skip ?_
      refine q_then ?_
      refine c_seq ?_
      refine c_region ?_
      refine o_call0 (v := .bool true) rfl (linesBegun_ok ) hf13 (fun w hw => ⟨pre_base (i := 2) rfl MaxW_st hMaxW w hw, pre_base (i := 2) rfl TabW_st hTabW w hw⟩) rfl ?_
      refine o_pure (p_move (v := .bool true) rfl) rfl rfl rfl ?_
      refine o_unguard 47 rfl rfl ?_
      refine o_pure (p_move (v := .string (Trc.format l)) rfl) rfl rfl rfl ?_
      refine o_unguard 47 rfl rfl ?_
      refine o_pure (p_move (v := .string (Trc.ofL (Trc.write l))) rfl) rfl rfl rfl ?_
      refine o_unguard 47 rfl rfl ?_
      refine o_pure (p_eqStr (s := (Trc.format l)) (t := (Trc.ofL (Trc.write l))) rfl rfl) rfl rfl rfl ?_
      refine o_pure (p_pick_true (u := .bool (decide ((Trc.format l) = (Trc.ofL (Trc.write l))))) rfl rfl) rfl rfl rfl ?_
      refine o_pure (p_move (v := .bool (decide ((Trc.format l) = (Trc.ofL (Trc.write l))))) rfl) rfl rfl rfl ?_
      refine o_and (p := 56) 4 ((Lru.trace l) == (Lru.trace l)) ?_ ?_ ?_
      · intro hb18 hk
        simp only [decide_eq_true_eq] at hb18
        refine o_unguard 52 rfl rfl ?_
        refine o_pure (p_move (v := .int .i64 (Lru.trace l)) rfl) rfl rfl rfl ?_
        refine o_unguard 52 rfl rfl ?_
        refine o_pure (p_move (v := .int .i64 (Lru.trace l)) rfl) rfl rfl rfl ?_
        refine o_unguard 52 rfl rfl ?_
        refine o_pure (p_eq (p := (Lru.trace l)) (q := (Lru.trace l)) rfl rfl) rfl rfl rfl ?_
        refine o_pure (p_pick_true (u := .bool ((Lru.trace l) == (Lru.trace l))) rfl rfl) rfl rfl rfl ?_
        exact o_sub (Sub.cons rfl (Sub.skip rfl (Sub.skip rfl (Sub.skip rfl (Sub.skip rfl (Sub.skip rfl (Sub.refl _))))))) hk
      · intro hb18 hk
        refine o_guard_no rfl 52 rfl rfl rfl rfl rfl ?_
        refine o_guard_no rfl 52 rfl rfl rfl rfl rfl ?_
        refine o_guard_no rfl 52 rfl rfl rfl rfl rfl ?_
        refine o_pure (p_pick_false (v := .bool false) rfl rfl) rfl rfl rfl ?_
        exact o_sub (Sub.cons rfl (Sub.skip rfl (Sub.skip rfl (Sub.skip rfl (Sub.skip rfl (Sub.skip rfl (Sub.refl _))))))) hk
      refine o_pure (p_move (v := .bool (decide ((Trc.format l) = (Trc.ofL (Trc.write l))) && ((Lru.trace l) == (Lru.trace l)))) rfl) rfl rfl rfl ?_
      refine o_and (p := 61) 4 (Ref.sameInts ((Trc.parse s).1) ((Trc.parse s).1)) ?_ ?_ ?_
      · intro hb19 hk
        simp only [Bool.and_eq_true, decide_eq_true_eq, beq_iff_eq] at hb19
        refine o_unguard 57 rfl rfl ?_
        refine o_pure (p_move (v := .slice a3 ((Trc.parse s).1).length c4) rfl) rfl rfl rfl ?_
        refine o_unguard 57 rfl rfl ?_
        refine o_pure (p_move (v := .slice a8 ((Trc.parse s).1).length c9) rfl) rfl rfl rfl ?_
        refine o_unguard 57 rfl rfl ?_
        refine o_call0 (v := .bool (Ref.sameInts ((Trc.parse s).1) ((Trc.parse s).1))) rfl (sameInts_ok ((Trc.parse s).1) a3 c4 ((Trc.parse s).1) a8 c9) hf14 (fun w hw => ⟨(rd_own (i := 1) rfl) w hw, (rd_own (i := 0) rfl) w hw⟩) rfl ?_
        refine o_pure (p_pick_true (u := .bool (Ref.sameInts ((Trc.parse s).1) ((Trc.parse s).1))) rfl rfl) rfl rfl rfl ?_
        exact o_sub (Sub.cons rfl (Sub.skip rfl (Sub.skip rfl (Sub.skip rfl (Sub.skip rfl (Sub.skip rfl (Sub.refl _))))))) hk
      · intro hb19 hk
        refine o_guard_no rfl 57 rfl rfl rfl rfl rfl ?_
        refine o_guard_no rfl 57 rfl rfl rfl rfl rfl ?_
        refine o_guard_no rfl 57 rfl rfl rfl rfl rfl ?_
        refine o_pure (p_pick_false (v := .bool false) rfl rfl) rfl rfl rfl ?_
        exact o_sub (Sub.cons rfl (Sub.skip rfl (Sub.skip rfl (Sub.skip rfl (Sub.skip rfl (Sub.skip rfl (Sub.refl _))))))) hk
      refine o_pure (p_move (v := .bool ((decide ((Trc.format l) = (Trc.ofL (Trc.write l))) && ((Lru.trace l) == (Lru.trace l))) && (Ref.sameInts ((Trc.parse s).1) ((Trc.parse s).1)))) rfl) rfl rfl rfl ?_
      refine o_and (p := 66) 4 (((Trc.parse s).2) == ((Trc.parse s).2)) ?_ ?_ ?_
      · intro hb20 hk
        simp only [Bool.and_eq_true, decide_eq_true_eq, beq_iff_eq] at hb20
        refine o_unguard 62 rfl rfl ?_
        refine o_pure (p_move (v := .int .i64 ((Trc.parse s).2)) rfl) rfl rfl rfl ?_
        refine o_unguard 62 rfl rfl ?_
        refine o_pure (p_move (v := .int .i64 ((Trc.parse s).2)) rfl) rfl rfl rfl ?_
        refine o_unguard 62 rfl rfl ?_
        refine o_pure (p_eq (p := ((Trc.parse s).2)) (q := ((Trc.parse s).2)) rfl rfl) rfl rfl rfl ?_
        refine o_pure (p_pick_true (u := .bool (((Trc.parse s).2) == ((Trc.parse s).2))) rfl rfl) rfl rfl rfl ?_
        exact o_sub (Sub.cons rfl (Sub.skip rfl (Sub.skip rfl (Sub.skip rfl (Sub.skip rfl (Sub.skip rfl (Sub.refl _))))))) hk
      · intro hb20 hk
        refine o_guard_no rfl 62 rfl rfl rfl rfl rfl ?_
        refine o_guard_no rfl 62 rfl rfl rfl rfl rfl ?_
        refine o_guard_no rfl 62 rfl rfl rfl rfl rfl ?_
        refine o_pure (p_pick_false (v := .bool false) rfl rfl) rfl rfl rfl ?_
        exact o_sub (Sub.cons rfl (Sub.skip rfl (Sub.skip rfl (Sub.skip rfl (Sub.skip rfl (Sub.skip rfl (Sub.refl _))))))) hk
      refine o_pure (p_move (v := .bool (((decide ((Trc.format l) = (Trc.ofL (Trc.write l))) && ((Lru.trace l) == (Lru.trace l))) && (Ref.sameInts ((Trc.parse s).1) ((Trc.parse s).1))) && (((Trc.parse s).2) == ((Trc.parse s).2)))) rfl) rfl rfl rfl ?_
      refine o_and (p := 71) 4 (decide ((Trc.compact s) = (ByteArray.mk #[]))) ?_ ?_ ?_
      · intro hb21 hk
        simp only [Bool.and_eq_true, decide_eq_true_eq, beq_iff_eq] at hb21
        refine o_unguard 67 rfl rfl ?_
        refine o_pure (p_move (v := .string (Trc.compact s)) rfl) rfl rfl rfl ?_
        refine o_unguard 67 rfl rfl ?_
        refine o_pure (p_move (v := .string (ByteArray.mk #[])) rfl) rfl rfl rfl ?_
        refine o_unguard 67 rfl rfl ?_
        refine o_pure (p_eqStr (s := (Trc.compact s)) (t := (ByteArray.mk #[])) rfl rfl) rfl rfl rfl ?_
        refine o_pure (p_pick_true (u := .bool (decide ((Trc.compact s) = (ByteArray.mk #[])))) rfl rfl) rfl rfl rfl ?_
        exact o_sub (Sub.cons rfl (Sub.skip rfl (Sub.skip rfl (Sub.skip rfl (Sub.skip rfl (Sub.skip rfl (Sub.refl _))))))) hk
      · intro hb21 hk
        refine o_guard_no rfl 67 rfl rfl rfl rfl rfl ?_
        refine o_guard_no rfl 67 rfl rfl rfl rfl rfl ?_
        refine o_guard_no rfl 67 rfl rfl rfl rfl rfl ?_
        refine o_pure (p_pick_false (v := .bool false) rfl rfl) rfl rfl rfl ?_
        exact o_sub (Sub.cons rfl (Sub.skip rfl (Sub.skip rfl (Sub.skip rfl (Sub.skip rfl (Sub.skip rfl (Sub.refl _))))))) hk
      refine o_pure (p_move (v := .bool ((((decide ((Trc.format l) = (Trc.ofL (Trc.write l))) && ((Lru.trace l) == (Lru.trace l))) && (Ref.sameInts ((Trc.parse s).1) ((Trc.parse s).1))) && (((Trc.parse s).2) == ((Trc.parse s).2))) && decide ((Trc.compact s) = (ByteArray.mk #[])))) rfl) rfl rfl rfl ?_
      refine o_and (p := 76) 4 (((Trc.parse s).2) == ((Trc.parse s).2)) ?_ ?_ ?_
      · intro hb22 hk
        simp only [Bool.and_eq_true, decide_eq_true_eq, beq_iff_eq] at hb22
        refine o_unguard 72 rfl rfl ?_
        refine o_pure (p_move (v := .int .i64 ((Trc.parse s).2)) rfl) rfl rfl rfl ?_
        refine o_unguard 72 rfl rfl ?_
        refine o_pure (p_move (v := .int .i64 ((Trc.parse s).2)) rfl) rfl rfl rfl ?_
        refine o_unguard 72 rfl rfl ?_
        refine o_pure (p_eq (p := ((Trc.parse s).2)) (q := ((Trc.parse s).2)) rfl rfl) rfl rfl rfl ?_
        refine o_pure (p_pick_true (u := .bool (((Trc.parse s).2) == ((Trc.parse s).2))) rfl rfl) rfl rfl rfl ?_
        exact o_sub (Sub.cons rfl (Sub.skip rfl (Sub.skip rfl (Sub.skip rfl (Sub.skip rfl (Sub.skip rfl (Sub.refl _))))))) hk
      · intro hb22 hk
        refine o_guard_no rfl 72 rfl rfl rfl rfl rfl ?_
        refine o_guard_no rfl 72 rfl rfl rfl rfl rfl ?_
        refine o_guard_no rfl 72 rfl rfl rfl rfl rfl ?_
        refine o_pure (p_pick_false (v := .bool false) rfl rfl) rfl rfl rfl ?_
        exact o_sub (Sub.cons rfl (Sub.skip rfl (Sub.skip rfl (Sub.skip rfl (Sub.skip rfl (Sub.skip rfl (Sub.refl _))))))) hk
      refine o_pure (p_assign (v := .bool (((((decide ((Trc.format l) = (Trc.ofL (Trc.write l))) && ((Lru.trace l) == (Lru.trace l))) && (Ref.sameInts ((Trc.parse s).1) ((Trc.parse s).1))) && (((Trc.parse s).2) == ((Trc.parse s).2))) && decide ((Trc.compact s) = (ByteArray.mk #[]))) && (((Trc.parse s).2) == ((Trc.parse s).2)))) rfl) rfl rfl rfl ?_
      refine o_nil ?_
      refine q_then ?_
      refine c_ret ?_
      have hr0 : ((((((decide ((Trc.format l) = (Trc.ofL (Trc.write l))) && ((Lru.trace l) == (Lru.trace l))) && (Ref.sameInts ((Trc.parse s).1) ((Trc.parse s).1))) && (((Trc.parse s).2) == ((Trc.parse s).2))) && decide ((Trc.compact s) = (ByteArray.mk #[]))) && (((Trc.parse s).2) == ((Trc.parse s).2))) : Bool) = true := by
        first | exact Trc.ts (Trc.fmt_ok hx) (Trc.cmp_ok hz) | exact Trc.ts (Trc.fmt_ok hx) (Trc.cmp_bad hz) | exact Trc.ts (Trc.fmt_bad hx).symm (Trc.cmp_ok hz) | exact Trc.ts (Trc.fmt_bad hx).symm (Trc.cmp_bad hz)
      refine q_end0 (v := .bool (((((decide ((Trc.format l) = (Trc.ofL (Trc.write l))) && ((Lru.trace l) == (Lru.trace l))) && (Ref.sameInts ((Trc.parse s).1) ((Trc.parse s).1))) && (((Trc.parse s).2) == ((Trc.parse s).2))) && decide ((Trc.compact s) = (ByteArray.mk #[]))) && (((Trc.parse s).2) == ((Trc.parse s).2)))) (rt1 rfl (r_tmp rfl)) (i := 2) rfl ?_
      exact (by have hcc := congrArg (fun (y0 : Bool) => (.bool y0 : Value)) hr0; exact hcc)
  · simp only [beq_eq_false_iff_ne, ne_eq] at hc11
    have hx := hc11
    refine c_skip ?_
    refine q_then ?_
    refine c_seq ?_
    refine c_seq ?_
    refine c_region ?_
    refine o_pure (p_move (v := .int .i64 ((Trc.parse s).2)) rfl) rfl rfl rfl ?_
    refine o_pure (p_eq (p := ((Trc.parse s).2)) (q := 0) rfl rfl) rfl rfl rfl ?_
    refine o_nil ?_
    refine q_then ?_
    refine c_cond (b := (((Trc.parse s).2) == 0)) rfl (fun hc23 => ?_) (fun hc23 => ?_)
    · simp only [beq_iff_eq] at hc23
      have hz := hc23
      refine c_region ?_
      refine o_pure (p_move (v := .slice a8 ((Trc.parse s).1).length c9) rfl) rfl rfl rfl ?_
      refine o_call0 (v := .string (Trc.ofL (Trc.write ((Trc.parse s).1)))) rfl (lineWrite_ok ((Trc.parse s).1) a8 c9 (by first | assumption | exact Trc.parse_ok (by assumption) | exact Trc.trace_drop hy1 _)) hf12 (fun w hw => (rd_own (i := 0) rfl) w hw) rfl ?_
      refine o_pure (p_assign (v := .string (Trc.ofL (Trc.write ((Trc.parse s).1)))) rfl) rfl rfl rfl ?_
      refine o_nil ?_
      refine q_then ?_
      refine c_seq ?_
      refine c_region ?_
      refine o_call0 (v := .bool true) rfl (linesBegun_ok ) hf13 (fun w hw => ⟨pre_base (i := 2) rfl MaxW_st hMaxW w hw, pre_base (i := 2) rfl TabW_st hTabW w hw⟩) rfl ?_
      refine o_pure (p_move (v := .bool true) rfl) rfl rfl rfl ?_
      refine o_unguard 47 rfl rfl ?_
      refine o_pure (p_move (v := .string (Trc.format l)) rfl) rfl rfl rfl ?_
      refine o_unguard 47 rfl rfl ?_
      refine o_pure (p_move (v := .string (ByteArray.mk #[])) rfl) rfl rfl rfl ?_
      refine o_unguard 47 rfl rfl ?_
      refine o_pure (p_eqStr (s := (Trc.format l)) (t := (ByteArray.mk #[])) rfl rfl) rfl rfl rfl ?_
      refine o_pure (p_pick_true (u := .bool (decide ((Trc.format l) = (ByteArray.mk #[])))) rfl rfl) rfl rfl rfl ?_
      refine o_pure (p_move (v := .bool (decide ((Trc.format l) = (ByteArray.mk #[])))) rfl) rfl rfl rfl ?_
      refine o_and (p := 56) 4 ((Lru.trace l) == (Lru.trace l)) ?_ ?_ ?_
      · intro hb24 hk
        simp only [decide_eq_true_eq] at hb24
        refine o_unguard 52 rfl rfl ?_
        refine o_pure (p_move (v := .int .i64 (Lru.trace l)) rfl) rfl rfl rfl ?_
        refine o_unguard 52 rfl rfl ?_
        refine o_pure (p_move (v := .int .i64 (Lru.trace l)) rfl) rfl rfl rfl ?_
        refine o_unguard 52 rfl rfl ?_
        refine o_pure (p_eq (p := (Lru.trace l)) (q := (Lru.trace l)) rfl rfl) rfl rfl rfl ?_
        refine o_pure (p_pick_true (u := .bool ((Lru.trace l) == (Lru.trace l))) rfl rfl) rfl rfl rfl ?_
        exact o_sub (Sub.cons rfl (Sub.skip rfl (Sub.skip rfl (Sub.skip rfl (Sub.skip rfl (Sub.skip rfl (Sub.refl _))))))) hk
      · intro hb24 hk
        refine o_guard_no rfl 52 rfl rfl rfl rfl rfl ?_
        refine o_guard_no rfl 52 rfl rfl rfl rfl rfl ?_
        refine o_guard_no rfl 52 rfl rfl rfl rfl rfl ?_
        refine o_pure (p_pick_false (v := .bool false) rfl rfl) rfl rfl rfl ?_
        exact o_sub (Sub.cons rfl (Sub.skip rfl (Sub.skip rfl (Sub.skip rfl (Sub.skip rfl (Sub.skip rfl (Sub.refl _))))))) hk
      refine o_pure (p_move (v := .bool (decide ((Trc.format l) = (ByteArray.mk #[])) && ((Lru.trace l) == (Lru.trace l)))) rfl) rfl rfl rfl ?_
      refine o_and (p := 61) 4 (Ref.sameInts ((Trc.parse s).1) ((Trc.parse s).1)) ?_ ?_ ?_
      · intro hb25 hk
        simp only [Bool.and_eq_true, decide_eq_true_eq, beq_iff_eq] at hb25
        refine o_unguard 57 rfl rfl ?_
        refine o_pure (p_move (v := .slice a3 ((Trc.parse s).1).length c4) rfl) rfl rfl rfl ?_
        refine o_unguard 57 rfl rfl ?_
        refine o_pure (p_move (v := .slice a8 ((Trc.parse s).1).length c9) rfl) rfl rfl rfl ?_
        refine o_unguard 57 rfl rfl ?_
        refine o_call0 (v := .bool (Ref.sameInts ((Trc.parse s).1) ((Trc.parse s).1))) rfl (sameInts_ok ((Trc.parse s).1) a3 c4 ((Trc.parse s).1) a8 c9) hf14 (fun w hw => ⟨(rd_own (i := 1) rfl) w hw, (rd_own (i := 0) rfl) w hw⟩) rfl ?_
        refine o_pure (p_pick_true (u := .bool (Ref.sameInts ((Trc.parse s).1) ((Trc.parse s).1))) rfl rfl) rfl rfl rfl ?_
        exact o_sub (Sub.cons rfl (Sub.skip rfl (Sub.skip rfl (Sub.skip rfl (Sub.skip rfl (Sub.skip rfl (Sub.refl _))))))) hk
      · intro hb25 hk
        refine o_guard_no rfl 57 rfl rfl rfl rfl rfl ?_
        refine o_guard_no rfl 57 rfl rfl rfl rfl rfl ?_
        refine o_guard_no rfl 57 rfl rfl rfl rfl rfl ?_
        refine o_pure (p_pick_false (v := .bool false) rfl rfl) rfl rfl rfl ?_
        exact o_sub (Sub.cons rfl (Sub.skip rfl (Sub.skip rfl (Sub.skip rfl (Sub.skip rfl (Sub.skip rfl (Sub.refl _))))))) hk
      refine o_pure (p_move (v := .bool ((decide ((Trc.format l) = (ByteArray.mk #[])) && ((Lru.trace l) == (Lru.trace l))) && (Ref.sameInts ((Trc.parse s).1) ((Trc.parse s).1)))) rfl) rfl rfl rfl ?_
      refine o_and (p := 66) 4 (((Trc.parse s).2) == ((Trc.parse s).2)) ?_ ?_ ?_
      · intro hb26 hk
        simp only [Bool.and_eq_true, decide_eq_true_eq, beq_iff_eq] at hb26
        refine o_unguard 62 rfl rfl ?_
        refine o_pure (p_move (v := .int .i64 ((Trc.parse s).2)) rfl) rfl rfl rfl ?_
        refine o_unguard 62 rfl rfl ?_
        refine o_pure (p_move (v := .int .i64 ((Trc.parse s).2)) rfl) rfl rfl rfl ?_
        refine o_unguard 62 rfl rfl ?_
        refine o_pure (p_eq (p := ((Trc.parse s).2)) (q := ((Trc.parse s).2)) rfl rfl) rfl rfl rfl ?_
        refine o_pure (p_pick_true (u := .bool (((Trc.parse s).2) == ((Trc.parse s).2))) rfl rfl) rfl rfl rfl ?_
        exact o_sub (Sub.cons rfl (Sub.skip rfl (Sub.skip rfl (Sub.skip rfl (Sub.skip rfl (Sub.skip rfl (Sub.refl _))))))) hk
      · intro hb26 hk
        refine o_guard_no rfl 62 rfl rfl rfl rfl rfl ?_
        refine o_guard_no rfl 62 rfl rfl rfl rfl rfl ?_
        refine o_guard_no rfl 62 rfl rfl rfl rfl rfl ?_
        refine o_pure (p_pick_false (v := .bool false) rfl rfl) rfl rfl rfl ?_
        exact o_sub (Sub.cons rfl (Sub.skip rfl (Sub.skip rfl (Sub.skip rfl (Sub.skip rfl (Sub.skip rfl (Sub.refl _))))))) hk
      refine o_pure (p_move (v := .bool (((decide ((Trc.format l) = (ByteArray.mk #[])) && ((Lru.trace l) == (Lru.trace l))) && (Ref.sameInts ((Trc.parse s).1) ((Trc.parse s).1))) && (((Trc.parse s).2) == ((Trc.parse s).2)))) rfl) rfl rfl rfl ?_
      refine o_and (p := 71) 4 (decide ((Trc.compact s) = (Trc.ofL (Trc.write ((Trc.parse s).1))))) ?_ ?_ ?_
      · intro hb27 hk
        simp only [Bool.and_eq_true, decide_eq_true_eq, beq_iff_eq] at hb27
        refine o_unguard 67 rfl rfl ?_
        refine o_pure (p_move (v := .string (Trc.compact s)) rfl) rfl rfl rfl ?_
        refine o_unguard 67 rfl rfl ?_
        refine o_pure (p_move (v := .string (Trc.ofL (Trc.write ((Trc.parse s).1)))) rfl) rfl rfl rfl ?_
        refine o_unguard 67 rfl rfl ?_
        refine o_pure (p_eqStr (s := (Trc.compact s)) (t := (Trc.ofL (Trc.write ((Trc.parse s).1)))) rfl rfl) rfl rfl rfl ?_
        refine o_pure (p_pick_true (u := .bool (decide ((Trc.compact s) = (Trc.ofL (Trc.write ((Trc.parse s).1)))))) rfl rfl) rfl rfl rfl ?_
        exact o_sub (Sub.cons rfl (Sub.skip rfl (Sub.skip rfl (Sub.skip rfl (Sub.skip rfl (Sub.skip rfl (Sub.refl _))))))) hk
      · intro hb27 hk
        refine o_guard_no rfl 67 rfl rfl rfl rfl rfl ?_
        refine o_guard_no rfl 67 rfl rfl rfl rfl rfl ?_
        refine o_guard_no rfl 67 rfl rfl rfl rfl rfl ?_
        refine o_pure (p_pick_false (v := .bool false) rfl rfl) rfl rfl rfl ?_
        exact o_sub (Sub.cons rfl (Sub.skip rfl (Sub.skip rfl (Sub.skip rfl (Sub.skip rfl (Sub.skip rfl (Sub.refl _))))))) hk
      refine o_pure (p_move (v := .bool ((((decide ((Trc.format l) = (ByteArray.mk #[])) && ((Lru.trace l) == (Lru.trace l))) && (Ref.sameInts ((Trc.parse s).1) ((Trc.parse s).1))) && (((Trc.parse s).2) == ((Trc.parse s).2))) && decide ((Trc.compact s) = (Trc.ofL (Trc.write ((Trc.parse s).1)))))) rfl) rfl rfl rfl ?_
      refine o_and (p := 76) 4 (((Trc.parse s).2) == ((Trc.parse s).2)) ?_ ?_ ?_
      · intro hb28 hk
        simp only [Bool.and_eq_true, decide_eq_true_eq, beq_iff_eq] at hb28
        refine o_unguard 72 rfl rfl ?_
        refine o_pure (p_move (v := .int .i64 ((Trc.parse s).2)) rfl) rfl rfl rfl ?_
        refine o_unguard 72 rfl rfl ?_
        refine o_pure (p_move (v := .int .i64 ((Trc.parse s).2)) rfl) rfl rfl rfl ?_
        refine o_unguard 72 rfl rfl ?_
        refine o_pure (p_eq (p := ((Trc.parse s).2)) (q := ((Trc.parse s).2)) rfl rfl) rfl rfl rfl ?_
        refine o_pure (p_pick_true (u := .bool (((Trc.parse s).2) == ((Trc.parse s).2))) rfl rfl) rfl rfl rfl ?_
        exact o_sub (Sub.cons rfl (Sub.skip rfl (Sub.skip rfl (Sub.skip rfl (Sub.skip rfl (Sub.skip rfl (Sub.refl _))))))) hk
      · intro hb28 hk
        refine o_guard_no rfl 72 rfl rfl rfl rfl rfl ?_
        refine o_guard_no rfl 72 rfl rfl rfl rfl rfl ?_
        refine o_guard_no rfl 72 rfl rfl rfl rfl rfl ?_
        refine o_pure (p_pick_false (v := .bool false) rfl rfl) rfl rfl rfl ?_
        exact o_sub (Sub.cons rfl (Sub.skip rfl (Sub.skip rfl (Sub.skip rfl (Sub.skip rfl (Sub.skip rfl (Sub.refl _))))))) hk
      refine o_pure (p_assign (v := .bool (((((decide ((Trc.format l) = (ByteArray.mk #[])) && ((Lru.trace l) == (Lru.trace l))) && (Ref.sameInts ((Trc.parse s).1) ((Trc.parse s).1))) && (((Trc.parse s).2) == ((Trc.parse s).2))) && decide ((Trc.compact s) = (Trc.ofL (Trc.write ((Trc.parse s).1))))) && (((Trc.parse s).2) == ((Trc.parse s).2)))) rfl) rfl rfl rfl ?_
      refine o_nil ?_
      refine q_then ?_
      refine c_ret ?_
      have hr0 : ((((((decide ((Trc.format l) = (ByteArray.mk #[])) && ((Lru.trace l) == (Lru.trace l))) && (Ref.sameInts ((Trc.parse s).1) ((Trc.parse s).1))) && (((Trc.parse s).2) == ((Trc.parse s).2))) && decide ((Trc.compact s) = (Trc.ofL (Trc.write ((Trc.parse s).1))))) && (((Trc.parse s).2) == ((Trc.parse s).2))) : Bool) = true := by
        first | exact Trc.ts (Trc.fmt_ok hx) (Trc.cmp_ok hz) | exact Trc.ts (Trc.fmt_ok hx) (Trc.cmp_bad hz) | exact Trc.ts (Trc.fmt_bad hx).symm (Trc.cmp_ok hz) | exact Trc.ts (Trc.fmt_bad hx).symm (Trc.cmp_bad hz)
      refine q_end0 (v := .bool (((((decide ((Trc.format l) = (ByteArray.mk #[])) && ((Lru.trace l) == (Lru.trace l))) && (Ref.sameInts ((Trc.parse s).1) ((Trc.parse s).1))) && (((Trc.parse s).2) == ((Trc.parse s).2))) && decide ((Trc.compact s) = (Trc.ofL (Trc.write ((Trc.parse s).1))))) && (((Trc.parse s).2) == ((Trc.parse s).2)))) (rt1 rfl (r_tmp rfl)) (i := 2) rfl ?_
      exact (by have hcc := congrArg (fun (y0 : Bool) => (.bool y0 : Value)) hr0; exact hcc)
    · simp only [beq_eq_false_iff_ne, ne_eq] at hc23
      have hz := hc23
      refine c_skip ?_
      refine q_then ?_
      refine c_seq ?_
      refine c_region ?_
      refine o_call0 (v := .bool true) rfl (linesBegun_ok ) hf13 (fun w hw => ⟨pre_base (i := 2) rfl MaxW_st hMaxW w hw, pre_base (i := 2) rfl TabW_st hTabW w hw⟩) rfl ?_
      refine o_pure (p_move (v := .bool true) rfl) rfl rfl rfl ?_
      refine o_unguard 47 rfl rfl ?_
      refine o_pure (p_move (v := .string (Trc.format l)) rfl) rfl rfl rfl ?_
      refine o_unguard 47 rfl rfl ?_
      refine o_pure (p_move (v := .string (ByteArray.mk #[])) rfl) rfl rfl rfl ?_
      refine o_unguard 47 rfl rfl ?_
      refine o_pure (p_eqStr (s := (Trc.format l)) (t := (ByteArray.mk #[])) rfl rfl) rfl rfl rfl ?_
      refine o_pure (p_pick_true (u := .bool (decide ((Trc.format l) = (ByteArray.mk #[])))) rfl rfl) rfl rfl rfl ?_
      refine o_pure (p_move (v := .bool (decide ((Trc.format l) = (ByteArray.mk #[])))) rfl) rfl rfl rfl ?_
      refine o_and (p := 56) 4 ((Lru.trace l) == (Lru.trace l)) ?_ ?_ ?_
      · intro hb29 hk
        simp only [decide_eq_true_eq] at hb29
        refine o_unguard 52 rfl rfl ?_
        refine o_pure (p_move (v := .int .i64 (Lru.trace l)) rfl) rfl rfl rfl ?_
        refine o_unguard 52 rfl rfl ?_
        refine o_pure (p_move (v := .int .i64 (Lru.trace l)) rfl) rfl rfl rfl ?_
        refine o_unguard 52 rfl rfl ?_
        refine o_pure (p_eq (p := (Lru.trace l)) (q := (Lru.trace l)) rfl rfl) rfl rfl rfl ?_
        refine o_pure (p_pick_true (u := .bool ((Lru.trace l) == (Lru.trace l))) rfl rfl) rfl rfl rfl ?_
        exact o_sub (Sub.cons rfl (Sub.skip rfl (Sub.skip rfl (Sub.skip rfl (Sub.skip rfl (Sub.skip rfl (Sub.refl _))))))) hk
      · intro hb29 hk
        refine o_guard_no rfl 52 rfl rfl rfl rfl rfl ?_
        refine o_guard_no rfl 52 rfl rfl rfl rfl rfl ?_
        refine o_guard_no rfl 52 rfl rfl rfl rfl rfl ?_
        refine o_pure (p_pick_false (v := .bool false) rfl rfl) rfl rfl rfl ?_
        exact o_sub (Sub.cons rfl (Sub.skip rfl (Sub.skip rfl (Sub.skip rfl (Sub.skip rfl (Sub.skip rfl (Sub.refl _))))))) hk
      refine o_pure (p_move (v := .bool (decide ((Trc.format l) = (ByteArray.mk #[])) && ((Lru.trace l) == (Lru.trace l)))) rfl) rfl rfl rfl ?_
      refine o_and (p := 61) 4 (Ref.sameInts ((Trc.parse s).1) ((Trc.parse s).1)) ?_ ?_ ?_
      · intro hb30 hk
        simp only [Bool.and_eq_true, decide_eq_true_eq, beq_iff_eq] at hb30
        refine o_unguard 57 rfl rfl ?_
        refine o_pure (p_move (v := .slice a3 ((Trc.parse s).1).length c4) rfl) rfl rfl rfl ?_
        refine o_unguard 57 rfl rfl ?_
        refine o_pure (p_move (v := .slice a8 ((Trc.parse s).1).length c9) rfl) rfl rfl rfl ?_
        refine o_unguard 57 rfl rfl ?_
        refine o_call0 (v := .bool (Ref.sameInts ((Trc.parse s).1) ((Trc.parse s).1))) rfl (sameInts_ok ((Trc.parse s).1) a3 c4 ((Trc.parse s).1) a8 c9) hf14 (fun w hw => ⟨(rd_own (i := 1) rfl) w hw, (rd_own (i := 0) rfl) w hw⟩) rfl ?_
        refine o_pure (p_pick_true (u := .bool (Ref.sameInts ((Trc.parse s).1) ((Trc.parse s).1))) rfl rfl) rfl rfl rfl ?_
        exact o_sub (Sub.cons rfl (Sub.skip rfl (Sub.skip rfl (Sub.skip rfl (Sub.skip rfl (Sub.skip rfl (Sub.refl _))))))) hk
      · intro hb30 hk
        refine o_guard_no rfl 57 rfl rfl rfl rfl rfl ?_
        refine o_guard_no rfl 57 rfl rfl rfl rfl rfl ?_
        refine o_guard_no rfl 57 rfl rfl rfl rfl rfl ?_
        refine o_pure (p_pick_false (v := .bool false) rfl rfl) rfl rfl rfl ?_
        exact o_sub (Sub.cons rfl (Sub.skip rfl (Sub.skip rfl (Sub.skip rfl (Sub.skip rfl (Sub.skip rfl (Sub.refl _))))))) hk
      refine o_pure (p_move (v := .bool ((decide ((Trc.format l) = (ByteArray.mk #[])) && ((Lru.trace l) == (Lru.trace l))) && (Ref.sameInts ((Trc.parse s).1) ((Trc.parse s).1)))) rfl) rfl rfl rfl ?_
      refine o_and (p := 66) 4 (((Trc.parse s).2) == ((Trc.parse s).2)) ?_ ?_ ?_
      · intro hb31 hk
        simp only [Bool.and_eq_true, decide_eq_true_eq, beq_iff_eq] at hb31
        refine o_unguard 62 rfl rfl ?_
        refine o_pure (p_move (v := .int .i64 ((Trc.parse s).2)) rfl) rfl rfl rfl ?_
        refine o_unguard 62 rfl rfl ?_
        refine o_pure (p_move (v := .int .i64 ((Trc.parse s).2)) rfl) rfl rfl rfl ?_
        refine o_unguard 62 rfl rfl ?_
        refine o_pure (p_eq (p := ((Trc.parse s).2)) (q := ((Trc.parse s).2)) rfl rfl) rfl rfl rfl ?_
        refine o_pure (p_pick_true (u := .bool (((Trc.parse s).2) == ((Trc.parse s).2))) rfl rfl) rfl rfl rfl ?_
        exact o_sub (Sub.cons rfl (Sub.skip rfl (Sub.skip rfl (Sub.skip rfl (Sub.skip rfl (Sub.skip rfl (Sub.refl _))))))) hk
      · intro hb31 hk
        refine o_guard_no rfl 62 rfl rfl rfl rfl rfl ?_
        refine o_guard_no rfl 62 rfl rfl rfl rfl rfl ?_
        refine o_guard_no rfl 62 rfl rfl rfl rfl rfl ?_
        refine o_pure (p_pick_false (v := .bool false) rfl rfl) rfl rfl rfl ?_
        exact o_sub (Sub.cons rfl (Sub.skip rfl (Sub.skip rfl (Sub.skip rfl (Sub.skip rfl (Sub.skip rfl (Sub.refl _))))))) hk
      refine o_pure (p_move (v := .bool (((decide ((Trc.format l) = (ByteArray.mk #[])) && ((Lru.trace l) == (Lru.trace l))) && (Ref.sameInts ((Trc.parse s).1) ((Trc.parse s).1))) && (((Trc.parse s).2) == ((Trc.parse s).2)))) rfl) rfl rfl rfl ?_
      refine o_and (p := 71) 4 (decide ((Trc.compact s) = (ByteArray.mk #[]))) ?_ ?_ ?_
      · intro hb32 hk
        simp only [Bool.and_eq_true, decide_eq_true_eq, beq_iff_eq] at hb32
        refine o_unguard 67 rfl rfl ?_
        refine o_pure (p_move (v := .string (Trc.compact s)) rfl) rfl rfl rfl ?_
        refine o_unguard 67 rfl rfl ?_
        refine o_pure (p_move (v := .string (ByteArray.mk #[])) rfl) rfl rfl rfl ?_
        refine o_unguard 67 rfl rfl ?_
        refine o_pure (p_eqStr (s := (Trc.compact s)) (t := (ByteArray.mk #[])) rfl rfl) rfl rfl rfl ?_
        refine o_pure (p_pick_true (u := .bool (decide ((Trc.compact s) = (ByteArray.mk #[])))) rfl rfl) rfl rfl rfl ?_
        exact o_sub (Sub.cons rfl (Sub.skip rfl (Sub.skip rfl (Sub.skip rfl (Sub.skip rfl (Sub.skip rfl (Sub.refl _))))))) hk
      · intro hb32 hk
        refine o_guard_no rfl 67 rfl rfl rfl rfl rfl ?_
        refine o_guard_no rfl 67 rfl rfl rfl rfl rfl ?_
        refine o_guard_no rfl 67 rfl rfl rfl rfl rfl ?_
        refine o_pure (p_pick_false (v := .bool false) rfl rfl) rfl rfl rfl ?_
        exact o_sub (Sub.cons rfl (Sub.skip rfl (Sub.skip rfl (Sub.skip rfl (Sub.skip rfl (Sub.skip rfl (Sub.refl _))))))) hk
      refine o_pure (p_move (v := .bool ((((decide ((Trc.format l) = (ByteArray.mk #[])) && ((Lru.trace l) == (Lru.trace l))) && (Ref.sameInts ((Trc.parse s).1) ((Trc.parse s).1))) && (((Trc.parse s).2) == ((Trc.parse s).2))) && decide ((Trc.compact s) = (ByteArray.mk #[])))) rfl) rfl rfl rfl ?_
      refine o_and (p := 76) 4 (((Trc.parse s).2) == ((Trc.parse s).2)) ?_ ?_ ?_
      · intro hb33 hk
        simp only [Bool.and_eq_true, decide_eq_true_eq, beq_iff_eq] at hb33
        refine o_unguard 72 rfl rfl ?_
        refine o_pure (p_move (v := .int .i64 ((Trc.parse s).2)) rfl) rfl rfl rfl ?_
        refine o_unguard 72 rfl rfl ?_
        refine o_pure (p_move (v := .int .i64 ((Trc.parse s).2)) rfl) rfl rfl rfl ?_
        refine o_unguard 72 rfl rfl ?_
        refine o_pure (p_eq (p := ((Trc.parse s).2)) (q := ((Trc.parse s).2)) rfl rfl) rfl rfl rfl ?_
        refine o_pure (p_pick_true (u := .bool (((Trc.parse s).2) == ((Trc.parse s).2))) rfl rfl) rfl rfl rfl ?_
        exact o_sub (Sub.cons rfl (Sub.skip rfl (Sub.skip rfl (Sub.skip rfl (Sub.skip rfl (Sub.skip rfl (Sub.refl _))))))) hk
      · intro hb33 hk
        refine o_guard_no rfl 72 rfl rfl rfl rfl rfl ?_
        refine o_guard_no rfl 72 rfl rfl rfl rfl rfl ?_
        refine o_guard_no rfl 72 rfl rfl rfl rfl rfl ?_
        refine o_pure (p_pick_false (v := .bool false) rfl rfl) rfl rfl rfl ?_
        exact o_sub (Sub.cons rfl (Sub.skip rfl (Sub.skip rfl (Sub.skip rfl (Sub.skip rfl (Sub.skip rfl (Sub.refl _))))))) hk
      refine o_pure (p_assign (v := .bool (((((decide ((Trc.format l) = (ByteArray.mk #[])) && ((Lru.trace l) == (Lru.trace l))) && (Ref.sameInts ((Trc.parse s).1) ((Trc.parse s).1))) && (((Trc.parse s).2) == ((Trc.parse s).2))) && decide ((Trc.compact s) = (ByteArray.mk #[]))) && (((Trc.parse s).2) == ((Trc.parse s).2)))) rfl) rfl rfl rfl ?_
      refine o_nil ?_
      refine q_then ?_
      refine c_ret ?_
      have hr0 : ((((((decide ((Trc.format l) = (ByteArray.mk #[])) && ((Lru.trace l) == (Lru.trace l))) && (Ref.sameInts ((Trc.parse s).1) ((Trc.parse s).1))) && (((Trc.parse s).2) == ((Trc.parse s).2))) && decide ((Trc.compact s) = (ByteArray.mk #[]))) && (((Trc.parse s).2) == ((Trc.parse s).2))) : Bool) = true := by
        first | exact Trc.ts (Trc.fmt_ok hx) (Trc.cmp_ok hz) | exact Trc.ts (Trc.fmt_ok hx) (Trc.cmp_bad hz) | exact Trc.ts (Trc.fmt_bad hx).symm (Trc.cmp_ok hz) | exact Trc.ts (Trc.fmt_bad hx).symm (Trc.cmp_bad hz)
      refine q_end0 (v := .bool (((((decide ((Trc.format l) = (ByteArray.mk #[])) && ((Lru.trace l) == (Lru.trace l))) && (Ref.sameInts ((Trc.parse s).1) ((Trc.parse s).1))) && (((Trc.parse s).2) == ((Trc.parse s).2))) && decide ((Trc.compact s) = (ByteArray.mk #[]))) && (((Trc.parse s).2) == ((Trc.parse s).2)))) (rt1 rfl (r_tmp rfl)) (i := 2) rfl ?_
      exact (by have hcc := congrArg (fun (y0 : Bool) => (.bool y0 : Value)) hr0; exact hcc)
end Go.Proofs.YtgkihbbeimhmbaaDoor
