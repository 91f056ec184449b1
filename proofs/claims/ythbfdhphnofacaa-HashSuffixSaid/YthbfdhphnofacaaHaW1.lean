/- The walks, printed by a program from the translation and a specification. -/
import Derived.Test.YthbfdhphnofacaaHaF
import Derived.Test.YthbfdhphnofacaaHaPure
namespace Go.Proofs.Ythbfdhphnofacaa
open Go.Sx Go.RowKit
set_option maxHeartbeats 8000000 in
set_option maxRecDepth 100000 in
theorem mix_ok (n : UInt64) : Fn0 Try.prog 15 [.int .u64 (n.toNat : Int)] (fun _ => True) (.int .u64 ((Hash.mix n).toNat : Int)) := by
  refine fn0 (nt := 17) (F0 := [(0, .int .u64 (n.toNat : Int))]) Try.func15 rfl Try.ntmps15 rfl rfl (fun w0 hpre => ?_)
  refine c_seq ?_
  refine c_region ?_
  refine o_pure (p_assign (v := .int .u64 ((0 : UInt64).toNat : Int)) rfl) rfl rfl rfl ?_
  refine o_nil ?_
  refine q_then ?_
  refine c_seq ?_
  refine c_region ?_
  refine o_pure (p_move (v := .int .u64 (n.toNat : Int)) rfl) rfl rfl rfl ?_
  refine o_pure (p_move (v := .int .u64 (n.toNat : Int)) rfl) rfl rfl rfl ?_
  refine o_pure (pu_shr (p := n) (m := 30) rfl rfl (by decide)) rfl rfl rfl ?_
  refine o_pure (pu_xor (p := n) (q := (shrU n 30)) rfl rfl) rfl rfl rfl ?_
  refine o_pure (pu_mul (p := (n ^^^ (shrU n 30))) (q := (13787848793156543929 : UInt64)) rfl rfl) rfl rfl rfl ?_
  refine o_pure (p_assign (v := .int .u64 (((n ^^^ (shrU n 30)) * (13787848793156543929 : UInt64)).toNat : Int)) rfl) rfl rfl rfl ?_
  refine o_nil ?_
  refine q_then ?_
  refine c_seq ?_
  refine c_region ?_
  refine o_pure (p_move (v := .int .u64 (((n ^^^ (shrU n 30)) * (13787848793156543929 : UInt64)).toNat : Int)) rfl) rfl rfl rfl ?_
  refine o_pure (p_move (v := .int .u64 (((n ^^^ (shrU n 30)) * (13787848793156543929 : UInt64)).toNat : Int)) rfl) rfl rfl rfl ?_
  refine o_pure (pu_shr (p := ((n ^^^ (shrU n 30)) * (13787848793156543929 : UInt64))) (m := 27) rfl rfl (by decide)) rfl rfl rfl ?_
  refine o_pure (pu_xor (p := ((n ^^^ (shrU n 30)) * (13787848793156543929 : UInt64))) (q := (shrU ((n ^^^ (shrU n 30)) * (13787848793156543929 : UInt64)) 27)) rfl rfl) rfl rfl rfl ?_
  refine o_pure (pu_mul (p := (((n ^^^ (shrU n 30)) * (13787848793156543929 : UInt64)) ^^^ (shrU ((n ^^^ (shrU n 30)) * (13787848793156543929 : UInt64)) 27))) (q := (10723151780598845931 : UInt64)) rfl rfl) rfl rfl rfl ?_
  refine o_pure (p_assign (v := .int .u64 (((((n ^^^ (shrU n 30)) * (13787848793156543929 : UInt64)) ^^^ (shrU ((n ^^^ (shrU n 30)) * (13787848793156543929 : UInt64)) 27)) * (10723151780598845931 : UInt64)).toNat : Int)) rfl) rfl rfl rfl ?_
  refine o_nil ?_
  refine q_then ?_
  refine c_seq ?_
  refine c_region ?_
  refine o_pure (p_move (v := .int .u64 (((((n ^^^ (shrU n 30)) * (13787848793156543929 : UInt64)) ^^^ (shrU ((n ^^^ (shrU n 30)) * (13787848793156543929 : UInt64)) 27)) * (10723151780598845931 : UInt64)).toNat : Int)) rfl) rfl rfl rfl ?_
  refine o_pure (p_move (v := .int .u64 (((((n ^^^ (shrU n 30)) * (13787848793156543929 : UInt64)) ^^^ (shrU ((n ^^^ (shrU n 30)) * (13787848793156543929 : UInt64)) 27)) * (10723151780598845931 : UInt64)).toNat : Int)) rfl) rfl rfl rfl ?_
  refine o_pure (pu_shr (p := ((((n ^^^ (shrU n 30)) * (13787848793156543929 : UInt64)) ^^^ (shrU ((n ^^^ (shrU n 30)) * (13787848793156543929 : UInt64)) 27)) * (10723151780598845931 : UInt64))) (m := 31) rfl rfl (by decide)) rfl rfl rfl ?_
  refine o_pure (pu_xor (p := ((((n ^^^ (shrU n 30)) * (13787848793156543929 : UInt64)) ^^^ (shrU ((n ^^^ (shrU n 30)) * (13787848793156543929 : UInt64)) 27)) * (10723151780598845931 : UInt64))) (q := (shrU ((((n ^^^ (shrU n 30)) * (13787848793156543929 : UInt64)) ^^^ (shrU ((n ^^^ (shrU n 30)) * (13787848793156543929 : UInt64)) 27)) * (10723151780598845931 : UInt64)) 31)) rfl rfl) rfl rfl rfl ?_
  refine o_pure (p_assign (v := .int .u64 ((((((n ^^^ (shrU n 30)) * (13787848793156543929 : UInt64)) ^^^ (shrU ((n ^^^ (shrU n 30)) * (13787848793156543929 : UInt64)) 27)) * (10723151780598845931 : UInt64)) ^^^ (shrU ((((n ^^^ (shrU n 30)) * (13787848793156543929 : UInt64)) ^^^ (shrU ((n ^^^ (shrU n 30)) * (13787848793156543929 : UInt64)) 27)) * (10723151780598845931 : UInt64)) 31)).toNat : Int)) rfl) rfl rfl rfl ?_
  refine o_nil ?_
  refine q_then ?_
  refine c_ret ?_
  refine q_end0 (v := .int .u64 ((((((n ^^^ (shrU n 30)) * (13787848793156543929 : UInt64)) ^^^ (shrU ((n ^^^ (shrU n 30)) * (13787848793156543929 : UInt64)) 27)) * (10723151780598845931 : UInt64)) ^^^ (shrU ((((n ^^^ (shrU n 30)) * (13787848793156543929 : UInt64)) ^^^ (shrU ((n ^^^ (shrU n 30)) * (13787848793156543929 : UInt64)) 27)) * (10723151780598845931 : UInt64)) 31)).toNat : Int)) (rt1 rfl (r_tmp rfl)) (i := 0) rfl ?_
  rfl

set_option maxHeartbeats 8000000 in
set_option maxRecDepth 100000 in
theorem undo_ok (n : UInt64) (by_ : Int) (hy1 : 1 ≤ by_ ∧ by_ ≤ 64) : Fn0 Try.prog 42 [.int .u64 (n.toNat : Int), .int .i64 by_] (fun _ => True) (.int .u64 ((Hash.undo n by_).toNat : Int)) := by
  refine fn0 (nt := 18) (F0 := [(0, .int .u64 (n.toNat : Int)), (1, .int .i64 by_)]) Try.func42 rfl Try.ntmps42 rfl rfl (fun w0 hpre => ?_)
  refine c_seq ?_
  refine c_region ?_
  refine o_pure (p_assign (v := .int .u64 ((0 : UInt64).toNat : Int)) rfl) rfl rfl rfl ?_
  refine o_nil ?_
  refine q_then ?_
  refine c_seq ?_
  refine c_region ?_
  refine o_pure (p_move (v := .int .u64 (n.toNat : Int)) rfl) rfl rfl rfl ?_
  refine o_pure (p_assign (v := .int .u64 (n.toNat : Int)) rfl) rfl rfl rfl ?_
  refine o_nil ?_
  refine q_then ?_
  refine c_seq ?_
  refine c_seq ?_
  refine c_region ?_
  refine o_pure (p_move (v := .int .i64 by_) rfl) rfl rfl rfl ?_
  refine o_pure (p_quo (p := 64) (q := by_) rfl rfl (by omega)) rfl rfl rfl ?_
  refine o_pure (p_move (v := .int .i64 0) rfl) rfl rfl rfl ?_
  refine o_nil ?_
  refine q_then ?_
  refine c_block ?_
  refine c_loop (St := UInt64 × Nat)
    (fun ⟨out, k⟩ => [(0, .int .u64 (n.toNat : Int)), (1, .int .i64 by_), (5, .int .u64 (out.toNat : Int)), (8, .int .i64 (IntKind.i64.wrap ((64 : Int).tdiv by_))), (9, .int .i64 (k : Int))])
    (fun ⟨out, k⟩ => [base w0])
    (fun ⟨out, k⟩ => k ≤ 64 / by_.toNat ∧ out = Hash.undoTo n by_.toNat k)
    (fun ⟨out, k⟩ => 64 / by_.toNat - k)
    (n, 0) ?_ (Sub.cons rfl (Sub.cons rfl (Sub.cons rfl (Sub.cons rfl (Sub.cons rfl (Sub.nil _)))))) (fun _ hw => hw) ?_
  · exact ⟨Nat.zero_le _, rfl⟩
  rintro ⟨out, k⟩ hI K hK1
  obtain ⟨hk, ho⟩ := hI
  have hb := Hash.undoBound hy1
  have hb2 : 64 / by_.toNat ≤ 64 := Nat.div_le_self _ _
  obtain ⟨mm, hmm⟩ : ∃ mm, 64 / by_.toNat = mm := ⟨_, rfl⟩
  rw [hmm] at hk hb hb2
  show SC Try.prog 18 w0 _ _ [(0, .int .u64 (n.toNat : Int)), (1, .int .i64 by_), (5, .int .u64 (out.toNat : Int)), (8, .int .i64 (IntKind.i64.wrap ((64 : Int).tdiv by_))), (9, .int .i64 (k : Int))] [base w0]
  refine c_seq ?_
  refine c_region ?_
  refine o_pure (p_lt (p := (k : Int)) (q := (IntKind.i64.wrap ((64 : Int).tdiv by_))) rfl rfl) rfl rfl rfl ?_
  refine o_nil ?_
  refine q_then ?_
  refine c_seq ?_
  refine c_cond (b := decide ((k : Int) < (IntKind.i64.wrap ((64 : Int).tdiv by_)))) rfl (fun hc2 => ?_) (fun hc2 => ?_)
  · simp only [decide_eq_true_eq] at hc2
    refine c_skip ?_
    refine q_then ?_
    refine c_seq ?_
    refine c_block ?_
    refine c_region ?_
    refine o_pure (p_move (v := .int .u64 (n.toNat : Int)) rfl) rfl rfl rfl ?_
    refine o_pure (p_move (v := .int .u64 (out.toNat : Int)) rfl) rfl rfl rfl ?_
    refine o_pure (p_move (v := .int .i64 by_) rfl) rfl rfl rfl ?_
    refine o_pure (pu_shr (p := out) (m := by_.toNat) rfl rfl (by omega)) rfl rfl rfl ?_
    refine o_pure (pu_xor (p := n) (q := (shrU out by_.toNat)) rfl rfl) rfl rfl rfl ?_
    refine o_pure (p_assign (v := .int .u64 ((n ^^^ (shrU out by_.toNat)).toNat : Int)) rfl) rfl rfl rfl ?_
    refine o_nil ?_
    refine q_block_normal (q_then ?_)
    refine c_region ?_
    refine o_pure (p_addb (p := (k : Int)) (q := 1) rfl rfl (by omega)) rfl rfl rfl ?_
    refine o_pure (p_move (v := .int .i64 ((k : Int) + 1)) rfl) rfl rfl rfl ?_
    refine o_nil ?_
    refine q_round hK1 ((n ^^^ (shrU out by_.toNat)), k + 1) ?_ ?_ ?_ ?_
    · clear hK1
      exact ⟨by rw [hmm]; omega, by rw [ho]; rfl⟩
    · (try dsimp only); rw [hmm]; omega
    · exact Sub.cons rfl (Sub.cons rfl (Sub.cons rfl (Sub.cons rfl (Sub.cons rfl (Sub.nil _)))))
    · exact fun _ hw => HeapIs.drop hw (List.Sublist.refl _)
  · simp only [decide_eq_false_iff_not, Int.not_lt] at hc2
    refine c_exit ?_
    refine q_then_exit (q_then_exit (q_block_exit (q_then ?_)))
    refine c_seq ?_
    refine c_region ?_
    refine o_pure (p_move (v := .int .u64 (out.toNat : Int)) rfl) rfl rfl rfl ?_
    refine o_pure (p_assign (v := .int .u64 (out.toNat : Int)) rfl) rfl rfl rfl ?_
    refine o_nil ?_
    refine q_then ?_
    refine c_ret ?_
    refine q_end0 (v := .int .u64 (out.toNat : Int)) (rt1 rfl (r_tmp rfl)) (i := 0) rfl ?_
    rw [show out = Hash.undo n by_ by unfold Hash.undo; rw [ho, hmm]; congr 1; omega]

set_option maxHeartbeats 8000000 in
set_option maxRecDepth 100000 in
theorem inverse_ok (n : UInt64) : Fn0 Try.prog 43 [.int .u64 (n.toNat : Int)] (fun _ => True) (.int .u64 ((Hash.inverse n).toNat : Int)) := by
  refine fn0 (nt := 15) (F0 := [(0, .int .u64 (n.toNat : Int))]) Try.func43 rfl Try.ntmps43 rfl rfl (fun w0 hpre => ?_)
  refine c_seq ?_
  refine c_region ?_
  refine o_pure (p_assign (v := .int .u64 ((0 : UInt64).toNat : Int)) rfl) rfl rfl rfl ?_
  refine o_nil ?_
  refine q_then ?_
  refine c_seq ?_
  refine c_region ?_
  refine o_pure (p_move (v := .int .u64 (n.toNat : Int)) rfl) rfl rfl rfl ?_
  refine o_pure (p_assign (v := .int .u64 (n.toNat : Int)) rfl) rfl rfl rfl ?_
  refine o_nil ?_
  refine q_then ?_
  refine c_seq ?_
  refine c_seq ?_
  refine c_region ?_
  refine o_pure (p_move (v := .int .i64 0) rfl) rfl rfl rfl ?_
  refine o_nil ?_
  refine q_then ?_
  refine c_block ?_
  refine c_loop (St := UInt64 × Nat)
    (fun ⟨out, k⟩ => [(0, .int .u64 (n.toNat : Int)), (3, .int .u64 (out.toNat : Int)), (5, .int .i64 (k : Int))])
    (fun ⟨out, k⟩ => [base w0])
    (fun ⟨out, k⟩ => k ≤ 5 ∧ out = Hash.invTo n k)
    (fun ⟨out, k⟩ => 5 - k)
    (n, 0) ?_ (Sub.cons rfl (Sub.cons rfl (Sub.cons rfl (Sub.nil _)))) (fun _ hw => hw) ?_
  · exact ⟨Nat.zero_le _, rfl⟩
  rintro ⟨out, k⟩ hI K hK1
  obtain ⟨hk, ho⟩ := hI
  show SC Try.prog 15 w0 _ _ [(0, .int .u64 (n.toNat : Int)), (3, .int .u64 (out.toNat : Int)), (5, .int .i64 (k : Int))] [base w0]
  refine c_seq ?_
  refine c_region ?_
  refine o_pure (p_lt (p := (k : Int)) (q := 5) rfl rfl) rfl rfl rfl ?_
  refine o_nil ?_
  refine q_then ?_
  refine c_seq ?_
  refine c_cond (b := decide ((k : Int) < 5)) rfl (fun hc2 => ?_) (fun hc2 => ?_)
  · simp only [decide_eq_true_eq] at hc2
    refine c_skip ?_
    refine q_then ?_
    refine c_seq ?_
    refine c_block ?_
    refine c_region ?_
    refine o_pure (p_move (v := .int .u64 (out.toNat : Int)) rfl) rfl rfl rfl ?_
    refine o_pure (p_move (v := .int .u64 (n.toNat : Int)) rfl) rfl rfl rfl ?_
    refine o_pure (p_move (v := .int .u64 (out.toNat : Int)) rfl) rfl rfl rfl ?_
    refine o_pure (pu_mul (p := n) (q := out) rfl rfl) rfl rfl rfl ?_
    refine o_pure (pu_sub (p := (2 : UInt64)) (q := (n * out)) rfl rfl) rfl rfl rfl ?_
    refine o_pure (pu_mul (p := out) (q := ((2 : UInt64) - (n * out))) rfl rfl) rfl rfl rfl ?_
    refine o_pure (p_assign (v := .int .u64 ((out * ((2 : UInt64) - (n * out))).toNat : Int)) rfl) rfl rfl rfl ?_
    refine o_nil ?_
    refine q_block_normal (q_then ?_)
    refine c_region ?_
    refine o_pure (p_addb (p := (k : Int)) (q := 1) rfl rfl (by omega)) rfl rfl rfl ?_
    refine o_pure (p_move (v := .int .i64 ((k : Int) + 1)) rfl) rfl rfl rfl ?_
    refine o_nil ?_
    refine q_round hK1 ((out * ((2 : UInt64) - (n * out))), k + 1) ?_ ?_ ?_ ?_
    · clear hK1
      exact ⟨by omega, by rw [ho]; rfl⟩
    · (try dsimp only); omega
    · exact Sub.cons rfl (Sub.cons rfl (Sub.cons rfl (Sub.nil _)))
    · exact fun _ hw => HeapIs.drop hw (List.Sublist.refl _)
  · simp only [decide_eq_false_iff_not, Int.not_lt] at hc2
    refine c_exit ?_
    refine q_then_exit (q_then_exit (q_block_exit (q_then ?_)))
    refine c_seq ?_
    refine c_region ?_
    refine o_pure (p_move (v := .int .u64 (out.toNat : Int)) rfl) rfl rfl rfl ?_
    refine o_pure (p_assign (v := .int .u64 (out.toNat : Int)) rfl) rfl rfl rfl ?_
    refine o_nil ?_
    refine q_then ?_
    refine c_ret ?_
    refine q_end0 (v := .int .u64 (out.toNat : Int)) (rt1 rfl (r_tmp rfl)) (i := 0) rfl ?_
    rw [show out = Hash.inverse n by unfold Hash.inverse; rw [ho]; congr 1; omega]

set_option maxHeartbeats 8000000 in
set_option maxRecDepth 100000 in
theorem unmix_ok (n : UInt64) : Fn0 Try.prog 17 [.int .u64 (n.toNat : Int)] (fun _ => True) (.int .u64 ((Hash.unmix n).toNat : Int)) := by
  refine fn0 (nt := 13) (F0 := [(0, .int .u64 (n.toNat : Int))]) Try.func17 rfl Try.ntmps17 rfl rfl (fun w0 hpre => ?_)
  refine c_seq ?_
  refine c_region ?_
  refine o_pure (p_assign (v := .int .u64 ((0 : UInt64).toNat : Int)) rfl) rfl rfl rfl ?_
  refine o_nil ?_
  refine q_then ?_
  refine c_seq ?_
  refine c_region ?_
  refine o_pure (p_move (v := .int .u64 (n.toNat : Int)) rfl) rfl rfl rfl ?_
  refine o_call0 (v := .int .u64 ((Hash.undo n 31).toNat : Int)) rfl (undo_ok n 31 (by decide)) hf42 (fun _ _ => trivial) rfl ?_
  refine o_call0 (v := .int .u64 ((Hash.inverse (10723151780598845931 : UInt64)).toNat : Int)) rfl (inverse_ok (10723151780598845931 : UInt64)) hf43 (fun _ _ => trivial) rfl ?_
  refine o_pure (pu_mul (p := (Hash.undo n 31)) (q := (Hash.inverse (10723151780598845931 : UInt64))) rfl rfl) rfl rfl rfl ?_
  refine o_pure (p_assign (v := .int .u64 (((Hash.undo n 31) * (Hash.inverse (10723151780598845931 : UInt64))).toNat : Int)) rfl) rfl rfl rfl ?_
  refine o_nil ?_
  refine q_then ?_
  refine c_seq ?_
  refine c_region ?_
  refine o_pure (p_move (v := .int .u64 (((Hash.undo n 31) * (Hash.inverse (10723151780598845931 : UInt64))).toNat : Int)) rfl) rfl rfl rfl ?_
  refine o_call0 (v := .int .u64 ((Hash.undo ((Hash.undo n 31) * (Hash.inverse (10723151780598845931 : UInt64))) 27).toNat : Int)) rfl (undo_ok ((Hash.undo n 31) * (Hash.inverse (10723151780598845931 : UInt64))) 27 (by decide)) hf42 (fun _ _ => trivial) rfl ?_
  refine o_call0 (v := .int .u64 ((Hash.inverse (13787848793156543929 : UInt64)).toNat : Int)) rfl (inverse_ok (13787848793156543929 : UInt64)) hf43 (fun _ _ => trivial) rfl ?_
  refine o_pure (pu_mul (p := (Hash.undo ((Hash.undo n 31) * (Hash.inverse (10723151780598845931 : UInt64))) 27)) (q := (Hash.inverse (13787848793156543929 : UInt64))) rfl rfl) rfl rfl rfl ?_
  refine o_pure (p_assign (v := .int .u64 (((Hash.undo ((Hash.undo n 31) * (Hash.inverse (10723151780598845931 : UInt64))) 27) * (Hash.inverse (13787848793156543929 : UInt64))).toNat : Int)) rfl) rfl rfl rfl ?_
  refine o_nil ?_
  refine q_then ?_
  refine c_seq ?_
  refine c_region ?_
  refine o_pure (p_move (v := .int .u64 (((Hash.undo ((Hash.undo n 31) * (Hash.inverse (10723151780598845931 : UInt64))) 27) * (Hash.inverse (13787848793156543929 : UInt64))).toNat : Int)) rfl) rfl rfl rfl ?_
  refine o_call0 (v := .int .u64 ((Hash.undo ((Hash.undo ((Hash.undo n 31) * (Hash.inverse (10723151780598845931 : UInt64))) 27) * (Hash.inverse (13787848793156543929 : UInt64))) 30).toNat : Int)) rfl (undo_ok ((Hash.undo ((Hash.undo n 31) * (Hash.inverse (10723151780598845931 : UInt64))) 27) * (Hash.inverse (13787848793156543929 : UInt64))) 30 (by decide)) hf42 (fun _ _ => trivial) rfl ?_
  refine o_pure (p_assign (v := .int .u64 ((Hash.undo ((Hash.undo ((Hash.undo n 31) * (Hash.inverse (10723151780598845931 : UInt64))) 27) * (Hash.inverse (13787848793156543929 : UInt64))) 30).toNat : Int)) rfl) rfl rfl rfl ?_
  refine o_nil ?_
  refine q_then ?_
  refine c_ret ?_
  refine q_end0 (v := .int .u64 ((Hash.undo ((Hash.undo ((Hash.undo n 31) * (Hash.inverse (10723151780598845931 : UInt64))) 27) * (Hash.inverse (13787848793156543929 : UInt64))) 30).toNat : Int)) (rt1 rfl (r_tmp rfl)) (i := 0) rfl ?_
  rfl
end Go.Proofs.Ythbfdhphnofacaa
