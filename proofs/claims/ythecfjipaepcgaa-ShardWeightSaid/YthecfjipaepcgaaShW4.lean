/- The walks, printed by a program from the translation and a specification. -/
import Derived.Test.YthecfjipaepcgaaShF
import Derived.Test.YthecfjipaepcgaaShLaw
import Derived.Test.YthecfjipaepcgaaShLaw2
namespace Go.Proofs.Ythecfjipaepcgaa
open Go.Sx Go.RowKit
set_option maxHeartbeats 8000000 in
set_option maxRecDepth 100000 in
theorem half_ok (n : UInt64) (many : Int) (hy1 : 0 ≤ many ∧ many ≤ 64) : Fn0 Try.prog 93 [.int .u64 (n.toNat : Int), .int .i64 many] (fun _ => True) (.int .u64 ((shrU n many.toNat).toNat : Int)) := by
  refine fn0 (nt := 14) (F0 := [(0, .int .u64 (n.toNat : Int)), (1, .int .i64 many)]) Try.func93 rfl Try.ntmps93 rfl rfl (fun w0 hpre => ?_)
  refine c_seq ?_
  refine c_region ?_
  refine o_pure (p_assign (v := .int .u64 ((0 : UInt64).toNat : Int)) rfl) rfl rfl rfl ?_
  refine o_nil ?_
  refine q_then ?_
  refine c_seq ?_
  refine c_seq ?_
  refine c_region ?_
  refine o_pure (p_assign (v := .int .i64 0) rfl) rfl rfl rfl ?_
  refine o_nil ?_
  refine q_then ?_
  refine c_block ?_
  refine c_loop (St := UInt64 × Nat)
    (fun ⟨m, i⟩ => [(0, .int .u64 (m.toNat : Int)), (1, .int .i64 many), (5, .int .i64 (i : Int))])
    (fun ⟨m, i⟩ => [base w0])
    (fun ⟨m, i⟩ => i ≤ many.toNat ∧ m = shrU n i)
    (fun ⟨m, i⟩ => many.toNat - i)
    (n, 0) ?_ (Sub.cons rfl (Sub.cons rfl (Sub.cons rfl (Sub.nil _)))) (fun _ hw => hw) ?_
  · exact ⟨Nat.zero_le _, (Hash.shrU_zero n).symm⟩
  rintro ⟨m, i⟩ hI K hK1
  obtain ⟨hk, ho⟩ := hI
  show SC _ _ Try.prog 14 w0 _ _ [(0, .int .u64 (m.toNat : Int)), (1, .int .i64 many), (5, .int .i64 (i : Int))] [base w0]
  refine c_seq ?_
  refine c_seq ?_
  refine c_region ?_
  refine o_pure (p_move (v := .int .i64 (i : Int)) rfl) rfl rfl rfl ?_
  refine o_pure (p_move (v := .int .i64 many) rfl) rfl rfl rfl ?_
  refine o_pure (p_lt (p := (i : Int)) (q := many) rfl rfl) rfl rfl rfl ?_
  refine o_nil ?_
  refine q_then ?_
  refine c_cond (b := decide ((i : Int) < many)) rfl (fun hc2 => ?_) (fun hc2 => ?_)
  · simp only [decide_eq_true_eq] at hc2
    refine c_skip ?_
    refine q_then ?_
    refine c_seq ?_
    refine c_block ?_
    refine c_region ?_
    refine o_pure (p_move (v := .int .u64 (m.toNat : Int)) rfl) rfl rfl rfl ?_
    refine o_pure (pu_quo (p := m) (q := (2 : UInt64)) rfl rfl (by first | decide | assumption)) rfl rfl rfl ?_
    refine o_pure (p_assign (v := .int .u64 ((m / (2 : UInt64)).toNat : Int)) rfl) rfl rfl rfl ?_
    refine o_nil ?_
    refine q_block_normal (q_then ?_)
    refine c_region ?_
    refine o_pure (p_move (v := .int .i64 (i : Int)) rfl) rfl rfl rfl ?_
    refine o_pure (p_addb (p := (i : Int)) (q := 1) rfl rfl (by omega)) rfl rfl rfl ?_
    refine o_pure (p_assign (v := .int .i64 ((i : Int) + 1)) rfl) rfl rfl rfl ?_
    refine o_nil ?_
    refine q_round hK1 ((m / (2 : UInt64)), i + 1) ?_ ?_ ?_ ?_
    · clear hK1
      exact ⟨by omega, by rw [ho]; exact Hash.half_step n i⟩
    · (try dsimp only); omega
    · exact Sub.cons rfl (Sub.cons rfl (Sub.cons rfl (Sub.nil _)))
    · exact fun _ hw => HeapIs.pick hw [0] (by decide) rfl
  · simp only [decide_eq_false_iff_not, Int.not_lt] at hc2
    refine c_exit ?_
    refine q_then_exit (q_then_exit (q_block_exit (q_then ?_)))
    refine c_seq ?_
    refine c_region ?_
    refine o_pure (p_move (v := .int .u64 (m.toNat : Int)) rfl) rfl rfl rfl ?_
    refine o_pure (p_assign (v := .int .u64 (m.toNat : Int)) rfl) rfl rfl rfl ?_
    refine o_nil ?_
    refine q_then ?_
    refine c_ret ?_
    refine q_end0 (v := .int .u64 (m.toNat : Int)) (rt1 rfl (r_tmp rfl)) (i := 0) rfl ?_
    rw [show m = shrU n many.toNat by rw [ho]; congr 1; omega]

set_option maxHeartbeats 8000000 in
set_option maxRecDepth 100000 in
theorem times_ok (a : UInt64) (b : UInt64) : Fn0 Try.prog 94 [.int .u64 (a.toNat : Int), .int .u64 (b.toNat : Int)] (fun _ => True) (.int .u64 ((a * b).toNat : Int)) := by
  refine fn0 (nt := 20) (F0 := [(0, .int .u64 (a.toNat : Int)), (1, .int .u64 (b.toNat : Int))]) Try.func94 rfl Try.ntmps94 rfl rfl (fun w0 hpre => ?_)
  refine c_seq ?_
  refine c_region ?_
  refine o_pure (p_assign (v := .int .u64 ((0 : UInt64).toNat : Int)) rfl) rfl rfl rfl ?_
  refine o_nil ?_
  refine q_then ?_
  refine c_seq ?_
  refine c_region ?_
  refine o_pure (p_assign (v := .int .u64 ((0 : UInt64).toNat : Int)) rfl) rfl rfl rfl ?_
  refine o_nil ?_
  refine q_then ?_
  refine c_seq ?_
  refine c_block ?_
  refine c_loop (St := UInt64 × UInt64 × UInt64)
    (fun ⟨a1, b1, sm⟩ => [(0, .int .u64 (a1.toNat : Int)), (1, .int .u64 (b1.toNat : Int)), (5, .int .u64 (sm.toNat : Int))])
    (fun ⟨a1, b1, sm⟩ => [base w0])
    (fun ⟨a1, b1, sm⟩ => sm + a1 * b1 = a * b)
    (fun ⟨a1, b1, sm⟩ => b1.toNat)
    (a, b, (0 : UInt64)) ?_ (Sub.cons rfl (Sub.cons rfl (Sub.cons rfl (Sub.nil _)))) (fun _ hw => hw) ?_
  · simp
  rintro ⟨a1, b1, sm⟩ hI K hK1
  show SC _ _ Try.prog 20 w0 _ _ [(0, .int .u64 (a1.toNat : Int)), (1, .int .u64 (b1.toNat : Int)), (5, .int .u64 (sm.toNat : Int))] [base w0]
  refine c_seq ?_
  refine c_seq ?_
  refine c_region ?_
  refine o_pure (p_move (v := .int .u64 (b1.toNat : Int)) rfl) rfl rfl rfl ?_
  refine o_pure (pu_gt (p := b1) (q := (0 : UInt64)) rfl rfl) rfl rfl rfl ?_
  refine o_nil ?_
  refine q_then ?_
  refine c_cond (b := decide ((0 : UInt64) < b1)) rfl (fun hc2 => ?_) (fun hc2 => ?_)
  · simp only [decide_eq_true_eq] at hc2
    refine c_skip ?_
    refine q_then ?_
    refine c_block ?_
    refine c_seq ?_
    refine c_seq ?_
    refine c_region ?_
    refine o_pure (p_move (v := .int .u64 (b1.toNat : Int)) rfl) rfl rfl rfl ?_
    refine o_pure (pu_rem (p := b1) (q := (2 : UInt64)) rfl rfl (by first | decide | assumption)) rfl rfl rfl ?_
    refine o_pure (pu_eq (p := (b1 % (2 : UInt64))) (q := (1 : UInt64)) rfl rfl) rfl rfl rfl ?_
    refine o_nil ?_
    refine q_then ?_
    refine c_cond (b := ((b1 % (2 : UInt64)) == (1 : UInt64))) rfl (fun hc3 => ?_) (fun hc3 => ?_)
    · simp only [beq_iff_eq] at hc3
      refine c_region ?_
      refine o_pure (p_move (v := .int .u64 (sm.toNat : Int)) rfl) rfl rfl rfl ?_
      refine o_pure (p_move (v := .int .u64 (a1.toNat : Int)) rfl) rfl rfl rfl ?_
      refine o_pure (pu_add (p := sm) (q := a1) rfl rfl) rfl rfl rfl ?_
      refine o_pure (p_assign (v := .int .u64 ((sm + a1).toNat : Int)) rfl) rfl rfl rfl ?_
      refine o_nil ?_
      refine q_then ?_
      refine c_seq ?_
      refine c_region ?_
      refine o_pure (p_move (v := .int .u64 (a1.toNat : Int)) rfl) rfl rfl rfl ?_
      refine o_pure (p_move (v := .int .u64 (a1.toNat : Int)) rfl) rfl rfl rfl ?_
      refine o_pure (pu_add (p := a1) (q := a1) rfl rfl) rfl rfl rfl ?_
      refine o_pure (p_assign (v := .int .u64 ((a1 + a1).toNat : Int)) rfl) rfl rfl rfl ?_
      refine o_nil ?_
      refine q_then ?_
      refine c_region ?_
      refine o_pure (p_move (v := .int .u64 (b1.toNat : Int)) rfl) rfl rfl rfl ?_
      refine o_pure (pu_quo (p := b1) (q := (2 : UInt64)) rfl rfl (by first | decide | assumption)) rfl rfl rfl ?_
      refine o_pure (p_assign (v := .int .u64 ((b1 / (2 : UInt64)).toNat : Int)) rfl) rfl rfl rfl ?_
      refine o_nil ?_
      refine q_block_normal ?_
      refine q_round hK1 ((a1 + a1), (b1 / (2 : UInt64)), (sm + a1)) ?_ ?_ ?_ ?_
      · clear hK1
        first | exact Hash.times_odd hI (by assumption) | exact Hash.times_even hI (by assumption)
      · exact Hash.half_less (by assumption)
      · exact Sub.cons rfl (Sub.cons rfl (Sub.cons rfl (Sub.nil _)))
      · exact fun _ hw => HeapIs.pick hw [0] (by decide) rfl
    · simp only [beq_eq_false_iff_ne, ne_eq] at hc3
      refine c_skip ?_
      refine q_then ?_
      refine c_seq ?_
      refine c_region ?_
      refine o_pure (p_move (v := .int .u64 (a1.toNat : Int)) rfl) rfl rfl rfl ?_
      refine o_pure (p_move (v := .int .u64 (a1.toNat : Int)) rfl) rfl rfl rfl ?_
      refine o_pure (pu_add (p := a1) (q := a1) rfl rfl) rfl rfl rfl ?_
      refine o_pure (p_assign (v := .int .u64 ((a1 + a1).toNat : Int)) rfl) rfl rfl rfl ?_
      refine o_nil ?_
      refine q_then ?_
      refine c_region ?_
      refine o_pure (p_move (v := .int .u64 (b1.toNat : Int)) rfl) rfl rfl rfl ?_
      refine o_pure (pu_quo (p := b1) (q := (2 : UInt64)) rfl rfl (by first | decide | assumption)) rfl rfl rfl ?_
      refine o_pure (p_assign (v := .int .u64 ((b1 / (2 : UInt64)).toNat : Int)) rfl) rfl rfl rfl ?_
      refine o_nil ?_
      refine q_block_normal ?_
      refine q_round hK1 ((a1 + a1), (b1 / (2 : UInt64)), sm) ?_ ?_ ?_ ?_
      · clear hK1
        first | exact Hash.times_odd hI (by assumption) | exact Hash.times_even hI (by assumption)
      · exact Hash.half_less (by assumption)
      · exact Sub.cons rfl (Sub.cons rfl (Sub.cons rfl (Sub.nil _)))
      · exact fun _ hw => HeapIs.pick hw [0] (by decide) rfl
  · simp only [decide_eq_false_iff_not, Int.not_lt] at hc2
    refine c_exit ?_
    refine q_then_exit (q_then_exit (q_block_exit (q_then ?_)))
    refine c_seq ?_
    refine c_region ?_
    refine o_pure (p_move (v := .int .u64 (sm.toNat : Int)) rfl) rfl rfl rfl ?_
    refine o_pure (p_assign (v := .int .u64 (sm.toNat : Int)) rfl) rfl rfl rfl ?_
    refine o_nil ?_
    refine q_then ?_
    refine c_ret ?_
    refine q_end0 (v := .int .u64 (sm.toNat : Int)) (rt1 rfl (r_tmp rfl)) (i := 0) rfl ?_
    rw [Hash.times_end hI (by assumption)]

set_option maxHeartbeats 8000000 in
set_option maxRecDepth 100000 in
theorem mixSum_ok (s : ByteArray) : Fn0 Try.prog 64 [.string s] (fun w => s.size ≤ 9223372036854775807) (.int .u64 ((Hash.raw s).toNat : Int)) := by
  refine fn0 (nt := 19) (F0 := [(0, .string s)]) Try.func64 rfl Try.ntmps64 rfl rfl (fun w0 hpre => ?_)
  have hs := hpre
  refine c_seq ?_
  refine c_region ?_
  refine o_pure (p_assign (v := .int .u64 ((0 : UInt64).toNat : Int)) rfl) rfl rfl rfl ?_
  refine o_nil ?_
  refine q_then ?_
  refine c_seq ?_
  refine c_region ?_
  refine o_pure (p_assign (v := .int .u64 ((14695981039346656037 : UInt64).toNat : Int)) rfl) rfl rfl rfl ?_
  refine o_nil ?_
  refine q_then ?_
  refine c_seq ?_
  refine c_seq ?_
  refine c_region ?_
  refine o_pure (p_assign (v := .int .i64 0) rfl) rfl rfl rfl ?_
  refine o_nil ?_
  refine q_then ?_
  refine c_block ?_
  refine c_loop (St := UInt64 × Nat)
    (fun ⟨n, i⟩ => [(0, .string s), (3, .int .u64 (n.toNat : Int)), (4, .int .i64 (i : Int))])
    (fun ⟨n, i⟩ => [base w0])
    (fun ⟨n, i⟩ => i ≤ s.size ∧ n = Hash.rawTo s i)
    (fun ⟨n, i⟩ => s.size - i)
    ((14695981039346656037 : UInt64), 0) ?_ (Sub.cons rfl (Sub.cons rfl (Sub.cons rfl (Sub.nil _)))) (fun _ hw => hw) ?_
  · exact ⟨Nat.zero_le _, rfl⟩
  rintro ⟨n, i⟩ hI K hK1
  obtain ⟨hk, ho⟩ := hI
  show SC _ _ Try.prog 19 w0 _ _ [(0, .string s), (3, .int .u64 (n.toNat : Int)), (4, .int .i64 (i : Int))] [base w0]
  refine c_seq ?_
  refine c_seq ?_
  refine c_region ?_
  refine o_pure (p_move (v := .int .i64 (i : Int)) rfl) rfl rfl rfl ?_
  refine o_pure (p_move (v := .string s) rfl) rfl rfl rfl ?_
  refine o_pure (p_len_string rfl rfl Try.underlying9) rfl rfl rfl ?_
  refine o_pure (p_lt (p := (i : Int)) (q := (s.size : Int)) rfl rfl) rfl rfl rfl ?_
  refine o_nil ?_
  refine q_then ?_
  refine c_cond (b := decide ((i : Int) < (s.size : Int))) rfl (fun hc2 => ?_) (fun hc2 => ?_)
  · simp only [decide_eq_true_eq] at hc2
    refine c_skip ?_
    refine q_then ?_
    refine c_seq ?_
    refine c_block ?_
    refine c_region ?_
    refine o_pure (p_move (v := .int .u64 (n.toNat : Int)) rfl) rfl rfl rfl ?_
    refine o_pure (p_move (v := .string s) rfl) rfl rfl rfl ?_
    refine o_pure (p_move (v := .int .i64 (i : Int)) rfl) rfl rfl rfl ?_
    refine o_pure (p_indexStr (z := (i : Int)) (i := i) rfl rfl Try.underlying9 (by omega) (by omega)) rfl rfl rfl ?_
    refine o_pure (pu_convB (c := (byteAt s i)) rfl Try.underlying5 Try.underlying59) rfl rfl rfl ?_
    refine o_pure (pu_xor (p := n) (q := (byteAt s i).toUInt64) rfl rfl) rfl rfl rfl ?_
    refine o_call0 (v := .int .u64 (((n ^^^ (byteAt s i).toUInt64) * (1099511628211 : UInt64)).toNat : Int)) rfl (times_ok (n ^^^ (byteAt s i).toUInt64) (1099511628211 : UInt64)) hf94 (fun _ _ => trivial) rfl ?_
    refine o_pure (p_assign (v := .int .u64 (((n ^^^ (byteAt s i).toUInt64) * (1099511628211 : UInt64)).toNat : Int)) rfl) rfl rfl rfl ?_
    refine o_nil ?_
    refine q_block_normal (q_then ?_)
    refine c_region ?_
    refine o_pure (p_move (v := .int .i64 (i : Int)) rfl) rfl rfl rfl ?_
    refine o_pure (p_addb (p := (i : Int)) (q := 1) rfl rfl (by omega)) rfl rfl rfl ?_
    refine o_pure (p_assign (v := .int .i64 ((i : Int) + 1)) rfl) rfl rfl rfl ?_
    refine o_nil ?_
    refine q_round hK1 (((n ^^^ (byteAt s i).toUInt64) * (1099511628211 : UInt64)), i + 1) ?_ ?_ ?_ ?_
    · clear hK1
      exact ⟨by omega, by rw [ho]; rfl⟩
    · (try dsimp only); omega
    · exact Sub.cons rfl (Sub.cons rfl (Sub.cons rfl (Sub.nil _)))
    · exact fun _ hw => HeapIs.pick hw [0] (by decide) rfl
  · simp only [decide_eq_false_iff_not, Int.not_lt] at hc2
    refine c_exit ?_
    refine q_then_exit (q_then_exit (q_block_exit (q_then ?_)))
    refine c_seq ?_
    refine c_region ?_
    refine o_pure (p_move (v := .int .u64 (n.toNat : Int)) rfl) rfl rfl rfl ?_
    refine o_pure (p_assign (v := .int .u64 (n.toNat : Int)) rfl) rfl rfl rfl ?_
    refine o_nil ?_
    refine q_then ?_
    refine c_ret ?_
    refine q_end0 (v := .int .u64 (n.toNat : Int)) (rt1 rfl (r_tmp rfl)) (i := 0) rfl ?_
    rw [show n = Hash.raw s by unfold Hash.raw; rw [ho]; congr 1; omega]

set_option maxHeartbeats 8000000 in
set_option maxRecDepth 100000 in
theorem mixOf_ok (n : UInt64) : Fn0 Try.prog 63 [.int .u64 (n.toNat : Int)] (fun _ => True) (.int .u64 ((Hash.mix n).toNat : Int)) := by
  refine fn0 (nt := 17) (F0 := [(0, .int .u64 (n.toNat : Int))]) Try.func63 rfl Try.ntmps63 rfl rfl (fun w0 hpre => ?_)
  refine c_seq ?_
  refine c_region ?_
  refine o_pure (p_assign (v := .int .u64 ((0 : UInt64).toNat : Int)) rfl) rfl rfl rfl ?_
  refine o_nil ?_
  refine q_then ?_
  refine c_seq ?_
  refine c_region ?_
  refine o_pure (p_move (v := .int .u64 (n.toNat : Int)) rfl) rfl rfl rfl ?_
  refine o_pure (p_move (v := .int .u64 (n.toNat : Int)) rfl) rfl rfl rfl ?_
  refine o_call0 (v := .int .u64 ((shrU n (30 : Int).toNat).toNat : Int)) rfl (half_ok n 30 (by first | assumption | omega | decide)) hf93 (fun _ _ => trivial) rfl ?_
  refine o_pure (pu_xor (p := n) (q := (shrU n (30 : Int).toNat)) rfl rfl) rfl rfl rfl ?_
  refine o_call0 (v := .int .u64 (((n ^^^ (shrU n (30 : Int).toNat)) * (13787848793156543929 : UInt64)).toNat : Int)) rfl (times_ok (n ^^^ (shrU n (30 : Int).toNat)) (13787848793156543929 : UInt64)) hf94 (fun _ _ => trivial) rfl ?_
  refine o_pure (p_assign (v := .int .u64 (((n ^^^ (shrU n (30 : Int).toNat)) * (13787848793156543929 : UInt64)).toNat : Int)) rfl) rfl rfl rfl ?_
  refine o_nil ?_
  refine q_then ?_
  refine c_seq ?_
  refine c_region ?_
  refine o_pure (p_move (v := .int .u64 (((n ^^^ (shrU n (30 : Int).toNat)) * (13787848793156543929 : UInt64)).toNat : Int)) rfl) rfl rfl rfl ?_
  refine o_pure (p_move (v := .int .u64 (((n ^^^ (shrU n (30 : Int).toNat)) * (13787848793156543929 : UInt64)).toNat : Int)) rfl) rfl rfl rfl ?_
  refine o_call0 (v := .int .u64 ((shrU ((n ^^^ (shrU n (30 : Int).toNat)) * (13787848793156543929 : UInt64)) (27 : Int).toNat).toNat : Int)) rfl (half_ok ((n ^^^ (shrU n (30 : Int).toNat)) * (13787848793156543929 : UInt64)) 27 (by first | assumption | omega | decide)) hf93 (fun _ _ => trivial) rfl ?_
  refine o_pure (pu_xor (p := ((n ^^^ (shrU n (30 : Int).toNat)) * (13787848793156543929 : UInt64))) (q := (shrU ((n ^^^ (shrU n (30 : Int).toNat)) * (13787848793156543929 : UInt64)) (27 : Int).toNat)) rfl rfl) rfl rfl rfl ?_
  refine o_call0 (v := .int .u64 (((((n ^^^ (shrU n (30 : Int).toNat)) * (13787848793156543929 : UInt64)) ^^^ (shrU ((n ^^^ (shrU n (30 : Int).toNat)) * (13787848793156543929 : UInt64)) (27 : Int).toNat)) * (10723151780598845931 : UInt64)).toNat : Int)) rfl (times_ok (((n ^^^ (shrU n (30 : Int).toNat)) * (13787848793156543929 : UInt64)) ^^^ (shrU ((n ^^^ (shrU n (30 : Int).toNat)) * (13787848793156543929 : UInt64)) (27 : Int).toNat)) (10723151780598845931 : UInt64)) hf94 (fun _ _ => trivial) rfl ?_
  refine o_pure (p_assign (v := .int .u64 (((((n ^^^ (shrU n (30 : Int).toNat)) * (13787848793156543929 : UInt64)) ^^^ (shrU ((n ^^^ (shrU n (30 : Int).toNat)) * (13787848793156543929 : UInt64)) (27 : Int).toNat)) * (10723151780598845931 : UInt64)).toNat : Int)) rfl) rfl rfl rfl ?_
  refine o_nil ?_
  refine q_then ?_
  refine c_seq ?_
  refine c_region ?_
  refine o_pure (p_move (v := .int .u64 (((((n ^^^ (shrU n (30 : Int).toNat)) * (13787848793156543929 : UInt64)) ^^^ (shrU ((n ^^^ (shrU n (30 : Int).toNat)) * (13787848793156543929 : UInt64)) (27 : Int).toNat)) * (10723151780598845931 : UInt64)).toNat : Int)) rfl) rfl rfl rfl ?_
  refine o_pure (p_move (v := .int .u64 (((((n ^^^ (shrU n (30 : Int).toNat)) * (13787848793156543929 : UInt64)) ^^^ (shrU ((n ^^^ (shrU n (30 : Int).toNat)) * (13787848793156543929 : UInt64)) (27 : Int).toNat)) * (10723151780598845931 : UInt64)).toNat : Int)) rfl) rfl rfl rfl ?_
  refine o_call0 (v := .int .u64 ((shrU ((((n ^^^ (shrU n (30 : Int).toNat)) * (13787848793156543929 : UInt64)) ^^^ (shrU ((n ^^^ (shrU n (30 : Int).toNat)) * (13787848793156543929 : UInt64)) (27 : Int).toNat)) * (10723151780598845931 : UInt64)) (31 : Int).toNat).toNat : Int)) rfl (half_ok ((((n ^^^ (shrU n (30 : Int).toNat)) * (13787848793156543929 : UInt64)) ^^^ (shrU ((n ^^^ (shrU n (30 : Int).toNat)) * (13787848793156543929 : UInt64)) (27 : Int).toNat)) * (10723151780598845931 : UInt64)) 31 (by first | assumption | omega | decide)) hf93 (fun _ _ => trivial) rfl ?_
  refine o_pure (pu_xor (p := ((((n ^^^ (shrU n (30 : Int).toNat)) * (13787848793156543929 : UInt64)) ^^^ (shrU ((n ^^^ (shrU n (30 : Int).toNat)) * (13787848793156543929 : UInt64)) (27 : Int).toNat)) * (10723151780598845931 : UInt64))) (q := (shrU ((((n ^^^ (shrU n (30 : Int).toNat)) * (13787848793156543929 : UInt64)) ^^^ (shrU ((n ^^^ (shrU n (30 : Int).toNat)) * (13787848793156543929 : UInt64)) (27 : Int).toNat)) * (10723151780598845931 : UInt64)) (31 : Int).toNat)) rfl rfl) rfl rfl rfl ?_
  refine o_pure (p_assign (v := .int .u64 ((((((n ^^^ (shrU n (30 : Int).toNat)) * (13787848793156543929 : UInt64)) ^^^ (shrU ((n ^^^ (shrU n (30 : Int).toNat)) * (13787848793156543929 : UInt64)) (27 : Int).toNat)) * (10723151780598845931 : UInt64)) ^^^ (shrU ((((n ^^^ (shrU n (30 : Int).toNat)) * (13787848793156543929 : UInt64)) ^^^ (shrU ((n ^^^ (shrU n (30 : Int).toNat)) * (13787848793156543929 : UInt64)) (27 : Int).toNat)) * (10723151780598845931 : UInt64)) (31 : Int).toNat)).toNat : Int)) rfl) rfl rfl rfl ?_
  refine o_nil ?_
  refine q_then ?_
  refine c_ret ?_
  refine q_end0 (v := .int .u64 ((((((n ^^^ (shrU n (30 : Int).toNat)) * (13787848793156543929 : UInt64)) ^^^ (shrU ((n ^^^ (shrU n (30 : Int).toNat)) * (13787848793156543929 : UInt64)) (27 : Int).toNat)) * (10723151780598845931 : UInt64)) ^^^ (shrU ((((n ^^^ (shrU n (30 : Int).toNat)) * (13787848793156543929 : UInt64)) ^^^ (shrU ((n ^^^ (shrU n (30 : Int).toNat)) * (13787848793156543929 : UInt64)) (27 : Int).toNat)) * (10723151780598845931 : UInt64)) (31 : Int).toNat)).toNat : Int)) (rt1 rfl (r_tmp rfl)) (i := 0) rfl ?_
  rfl

set_option maxHeartbeats 8000000 in
set_option maxRecDepth 100000 in
theorem between_ok (n : Int) (a : Int) (b : Int) : Fn0 Try.prog 61 [.int .i64 n, .int .i64 a, .int .i64 b] (fun _ => True) (.bool (Ref.between n a b)) := by
  refine fn0 (nt := 15) (F0 := [(0, .int .i64 n), (1, .int .i64 a), (2, .int .i64 b)]) Try.func61 rfl Try.ntmps61 rfl rfl (fun w0 hpre => ?_)
  refine c_seq ?_
  refine c_region ?_
  refine o_pure (p_assign (v := .bool false) rfl) rfl rfl rfl ?_
  refine o_nil ?_
  refine q_then ?_
  refine c_seq ?_
  refine c_region ?_
  refine o_pure (p_move (v := .int .i64 n) rfl) rfl rfl rfl ?_
  refine o_pure (p_move (v := .int .i64 a) rfl) rfl rfl rfl ?_
  refine o_pure (p_ge (p := n) (q := a) rfl rfl) rfl rfl rfl ?_
  refine o_pure (p_move (v := .bool (decide (a ≤ n))) rfl) rfl rfl rfl ?_
  refine o_and (p := 14) 4 (decide (n ≤ b)) ?_ ?_ ?_
  · intro hb1 hk
    simp only [decide_eq_true_eq] at hb1
    refine o_unguard 10 rfl rfl ?_
    refine o_pure (p_move (v := .int .i64 n) rfl) rfl rfl rfl ?_
    refine o_unguard 10 rfl rfl ?_
    refine o_pure (p_move (v := .int .i64 b) rfl) rfl rfl rfl ?_
    refine o_unguard 10 rfl rfl ?_
    refine o_pure (p_le (p := n) (q := b) rfl rfl) rfl rfl rfl ?_
    refine o_pure (p_pick_true (u := .bool (decide (n ≤ b))) rfl rfl) rfl rfl rfl ?_
    exact o_sub (Sub.cons rfl (Sub.skip rfl (Sub.skip rfl (Sub.skip rfl (Sub.skip rfl (Sub.skip rfl (Sub.refl _))))))) hk
  · intro hb1 hk
    refine o_guard_no rfl 10 rfl rfl rfl rfl rfl ?_
    refine o_guard_no rfl 10 rfl rfl rfl rfl rfl ?_
    refine o_guard_no rfl 10 rfl rfl rfl rfl rfl ?_
    refine o_pure (p_pick_false (v := .bool false) rfl rfl) rfl rfl rfl ?_
    exact o_sub (Sub.cons rfl (Sub.skip rfl (Sub.skip rfl (Sub.skip rfl (Sub.skip rfl (Sub.skip rfl (Sub.refl _))))))) hk
  refine o_pure (p_assign (v := .bool (decide (a ≤ n) && decide (n ≤ b))) rfl) rfl rfl rfl ?_
  refine o_nil ?_
  refine q_then ?_
  refine c_ret ?_
  have hr0 : ((decide (a ≤ n) && decide (n ≤ b)) : Bool) = (Ref.between n a b) := by
    rfl
  refine q_end0 (v := .bool (decide (a ≤ n) && decide (n ≤ b))) (rt1 rfl (r_tmp rfl)) (i := 0) rfl ?_
  exact (by have hcc := congrArg (fun (y0 : Bool) => (.bool y0 : Value)) hr0; exact hcc)

set_option maxHeartbeats 8000000 in
set_option maxRecDepth 100000 in
theorem hasInt_ok (l : List Int) (al : Option Addr) (cl : Nat) (n : Int) : Fn0 Try.prog 34 [.slice al l.length cl, .int .i64 n] (fun w => Rd tInt w al cl l) (.bool (Ref.hasInt l n)) := by
  refine fn0 (nt := 18) (F0 := [(0, .slice al l.length cl), (1, .int .i64 n)]) Try.func34 rfl Try.ntmps34 rfl rfl (fun w0 hpre => ?_)
  have hl := hpre
  have hlhl := hl.2.1
  refine c_seq ?_
  refine c_region ?_
  refine o_pure (p_assign (v := .bool false) rfl) rfl rfl rfl ?_
  refine o_nil ?_
  refine q_then ?_
  refine c_seq ?_
  refine c_seq ?_
  refine c_region ?_
  refine o_pure (p_assign (v := .int .i64 0) rfl) rfl rfl rfl ?_
  refine o_nil ?_
  refine q_then ?_
  refine c_block ?_
  refine c_loop (St := Nat)
    (fun i => [(0, .slice al l.length cl), (1, .int .i64 n), (5, .int .i64 (i : Int))])
    (fun i => [base w0])
    (fun i => i ≤ l.length ∧ ∀ j (h1 : j < l.length), j < i → l[j] ≠ n)
    (fun i => l.length - i)
    0 ?_ (Sub.cons rfl (Sub.cons rfl (Sub.cons rfl (Sub.nil _)))) (fun _ hw => hw) ?_
  · exact ⟨Nat.zero_le _, fun j _ h => absurd h (by omega)⟩
  rintro i hI K hK1
  obtain ⟨hi, hinv⟩ := hI
  show SC _ _ Try.prog 18 w0 _ _ [(0, .slice al l.length cl), (1, .int .i64 n), (5, .int .i64 (i : Int))] [base w0]
  refine c_seq ?_
  refine c_seq ?_
  refine c_region ?_
  refine o_pure (p_move (v := .int .i64 (i : Int)) rfl) rfl rfl rfl ?_
  refine o_pure (p_move (v := .slice al l.length cl) rfl) rfl rfl rfl ?_
  refine o_pure (p_len_slice (len := l.length) rfl rfl Try.underlying45) rfl rfl rfl ?_
  refine o_pure (p_lt (p := (i : Int)) (q := (l.length : Int)) rfl rfl) rfl rfl rfl ?_
  refine o_nil ?_
  refine q_then ?_
  refine c_cond (b := decide ((i : Int) < (l.length : Int))) rfl (fun hc2 => ?_) (fun hc2 => ?_)
  · simp only [decide_eq_true_eq] at hc2
    refine c_skip ?_
    refine q_then ?_
    refine c_seq ?_
    refine c_block ?_
    refine c_seq ?_
    refine c_region ?_
    refine o_pure (p_move (v := .slice al l.length cl) rfl) rfl rfl rfl ?_
    refine o_pure (p_move (v := .int .i64 (i : Int)) rfl) rfl rfl rfl ?_
    refine o_pure (p_indexAddr (L := l) (T := tInt) (i := (i : Int)) rfl rfl (rd_base (i := 0) rfl hl) Try.underlying45 sz3 (by omega) (by omega)) rfl rfl rfl ?_
    refine o_pure (p_loadE1 (i := i) (T := tInt) (L := l) (v := .int .i64 (l[i])) rfl (rd_base (i := 0) rfl hl) (by first | assumption | omega) sh3 rfl) rfl rfl rfl ?_
    refine o_pure (p_move (v := .int .i64 n) rfl) rfl rfl rfl ?_
    refine o_pure (p_eq (p := l[i]) (q := n) rfl rfl) rfl rfl rfl ?_
    refine o_nil ?_
    refine q_then ?_
    refine c_cond (b := (l[i] == n)) rfl (fun hc3 => ?_) (fun hc3 => ?_)
    · simp only [beq_iff_eq] at hc3
      refine c_seq ?_
      refine c_region ?_
      refine o_pure (p_assign (v := .bool true) rfl) rfl rfl rfl ?_
      refine o_nil ?_
      refine q_then ?_
      refine c_ret ?_
      refine q_block_ret (q_then_ret (q_then_ret (q_block_ret (q_then_ret ?_))))
      have hr0 : (true : Bool) = (Ref.hasInt l n) := by
        simp only [Ref.hasInt]
        grind [List.mem_iff_getElem]
      refine q_end0 (v := .bool true) (rt1 rfl (r_tmp rfl)) (i := 0) rfl ?_
      exact (by have hcc := congrArg (fun (y0 : Bool) => (.bool y0 : Value)) hr0; exact hcc)
    · simp only [beq_eq_false_iff_ne, ne_eq] at hc3
      refine c_skip ?_
      refine q_block_normal (q_then ?_)
      refine c_region ?_
      refine o_pure (p_move (v := .int .i64 (i : Int)) rfl) rfl rfl rfl ?_
      refine o_pure (p_addb (p := (i : Int)) (q := 1) rfl rfl (by omega)) rfl rfl rfl ?_
      refine o_pure (p_assign (v := .int .i64 ((i : Int) + 1)) rfl) rfl rfl rfl ?_
      refine o_nil ?_
      refine q_round hK1 (i + 1) ?_ ?_ ?_ ?_
      · clear hK1
        refine ⟨by omega, ?_⟩
        grind
      · (try dsimp only); omega
      · exact Sub.cons rfl (Sub.cons rfl (Sub.cons rfl (Sub.nil _)))
      · exact fun _ hw => HeapIs.pick hw [0] (by decide) rfl
  · simp only [decide_eq_false_iff_not, Int.not_lt] at hc2
    refine c_exit ?_
    refine q_then_exit (q_then_exit (q_block_exit (q_then ?_)))
    refine c_seq ?_
    refine c_region ?_
    refine o_pure (p_assign (v := .bool false) rfl) rfl rfl rfl ?_
    refine o_nil ?_
    refine q_then ?_
    refine c_ret ?_
    have hr0 : (false : Bool) = (Ref.hasInt l n) := by
      simp only [Ref.hasInt]
      grind [List.mem_iff_getElem]
    refine q_end0 (v := .bool false) (rt1 rfl (r_tmp rfl)) (i := 0) rfl ?_
    exact (by have hcc := congrArg (fun (y0 : Bool) => (.bool y0 : Value)) hr0; exact hcc)

set_option maxHeartbeats 8000000 in
set_option maxRecDepth 100000 in
theorem sameInts_ok (a : List Int) (aa : Option Addr) (ca : Nat) (b : List Int) (ab : Option Addr) (cb : Nat) : Fn0 Try.prog 31 [.slice aa a.length ca, .slice ab b.length cb] (fun w => Rd tInt w aa ca a ∧ Rd tInt w ab cb b) (.bool (Ref.sameInts a b)) := by
  refine fn0 (nt := 26) (F0 := [(0, .slice aa a.length ca), (1, .slice ab b.length cb)]) Try.func31 rfl Try.ntmps31 rfl rfl (fun w0 hpre => ?_)
  obtain ⟨ha, hb⟩ := hpre
  have hlha := ha.2.1
  have hlhb := hb.2.1
  refine c_seq ?_
  refine c_region ?_
  refine o_pure (p_assign (v := .bool false) rfl) rfl rfl rfl ?_
  refine o_nil ?_
  refine q_then ?_
  refine c_seq ?_
  refine c_seq ?_
  refine c_region ?_
  refine o_pure (p_move (v := .slice aa a.length ca) rfl) rfl rfl rfl ?_
  refine o_pure (p_len_slice (len := a.length) rfl rfl Try.underlying45) rfl rfl rfl ?_
  refine o_pure (p_move (v := .slice ab b.length cb) rfl) rfl rfl rfl ?_
  refine o_pure (p_len_slice (len := b.length) rfl rfl Try.underlying45) rfl rfl rfl ?_
  refine o_pure (p_ne (p := (a.length : Int)) (q := (b.length : Int)) rfl rfl) rfl rfl rfl ?_
  refine o_nil ?_
  refine q_then ?_
  refine c_cond (b := ((a.length : Int) != (b.length : Int))) rfl (fun hc1 => ?_) (fun hc1 => ?_)
  · simp only [bne_iff_ne, ne_eq] at hc1
    refine c_seq ?_
    refine c_region ?_
    refine o_pure (p_assign (v := .bool false) rfl) rfl rfl rfl ?_
    refine o_nil ?_
    refine q_then ?_
    refine c_ret ?_
    refine q_then_ret ?_
    have hr0 : (false : Bool) = (Ref.sameInts a b) := by
      simp only [Ref.sameInts]
      grind [List.ext_getElem]
    refine q_end0 (v := .bool false) (rt1 rfl (r_tmp rfl)) (i := 0) rfl ?_
    exact (by have hcc := congrArg (fun (y0 : Bool) => (.bool y0 : Value)) hr0; exact hcc)
  · simp only [bne_eq_false_iff_eq] at hc1
    refine c_skip ?_
    refine q_then ?_
    refine c_seq ?_
    refine c_seq ?_
    refine c_region ?_
    refine o_pure (p_assign (v := .int .i64 0) rfl) rfl rfl rfl ?_
    refine o_nil ?_
    refine q_then ?_
    refine c_block ?_
    refine c_loop (St := Nat)
      (fun i => [(0, .slice aa a.length ca), (1, .slice ab b.length cb), (5, .int .i64 (i : Int))])
      (fun i => [base w0])
      (fun i => i ≤ a.length ∧ ∀ j (h1 : j < a.length) (h2 : j < b.length), j < i → a[j] = b[j])
      (fun i => a.length - i)
      0 ?_ (Sub.cons rfl (Sub.cons rfl (Sub.cons rfl (Sub.nil _)))) (fun _ hw => hw) ?_
    · exact ⟨Nat.zero_le _, fun j _ _ h => absurd h (by omega)⟩
    rintro i hI K hK2
    obtain ⟨hi, hinv⟩ := hI
    show SC _ _ Try.prog 26 w0 _ _ [(0, .slice aa a.length ca), (1, .slice ab b.length cb), (5, .int .i64 (i : Int))] [base w0]
    refine c_seq ?_
    refine c_seq ?_
    refine c_region ?_
    refine o_pure (p_move (v := .int .i64 (i : Int)) rfl) rfl rfl rfl ?_
    refine o_pure (p_move (v := .slice aa a.length ca) rfl) rfl rfl rfl ?_
    refine o_pure (p_len_slice (len := a.length) rfl rfl Try.underlying45) rfl rfl rfl ?_
    refine o_pure (p_lt (p := (i : Int)) (q := (a.length : Int)) rfl rfl) rfl rfl rfl ?_
    refine o_nil ?_
    refine q_then ?_
    refine c_cond (b := decide ((i : Int) < (a.length : Int))) rfl (fun hc3 => ?_) (fun hc3 => ?_)
    · simp only [decide_eq_true_eq] at hc3
      refine c_skip ?_
      refine q_then ?_
      refine c_seq ?_
      refine c_block ?_
      refine c_seq ?_
      refine c_draw hmix (by kernel_rfl) ?_
      refine w_pure (p_move (v := .slice aa a.length ca) rfl) rfl rfl rfl ?_
      refine w_pure (p_move (v := .int .i64 (i : Int)) rfl) rfl rfl rfl ?_
      refine w_pure (p_indexAddr (L := a) (T := tInt) (i := (i : Int)) rfl rfl (rd_base (i := 0) rfl ha) Try.underlying45 sz3 (by omega) (by omega)) rfl rfl rfl ?_
      refine w_pure (p_loadE1 (i := i) (T := tInt) (L := a) (v := .int .i64 (a[i])) rfl (rd_base (i := 0) rfl ha) (by first | assumption | omega) sh3 rfl) rfl rfl rfl ?_
      refine w_pure (p_move (v := .slice ab b.length cb) rfl) rfl rfl rfl ?_
      refine w_pure (p_move (v := .int .i64 (i : Int)) rfl) rfl rfl rfl ?_
      refine w_pure (p_indexAddr (L := b) (T := tInt) (i := (i : Int)) rfl rfl (rd_base (i := 0) rfl hb) Try.underlying45 sz3 (by omega) (by omega)) rfl rfl rfl ?_
      refine w_pure (p_loadE1 (i := i) (T := tInt) (L := b) (v := .int .i64 (b[i])) rfl (rd_base (i := 0) rfl hb) (by first | assumption | omega) sh3 rfl) rfl rfl rfl ?_
      refine w_pure (p_ne (p := a[i]) (q := b[i]) rfl rfl) rfl rfl rfl ?_
      refine w_nil ?_
      refine q_then ?_
      refine c_cond (b := (a[i] != b[i])) rfl (fun hc4 => ?_) (fun hc4 => ?_)
      · simp only [bne_iff_ne, ne_eq] at hc4
        refine c_seq ?_
        refine c_region ?_
        refine o_pure (p_assign (v := .bool false) rfl) rfl rfl rfl ?_
        refine o_nil ?_
        refine q_then ?_
        refine c_ret ?_
        refine q_block_ret (q_then_ret (q_then_ret (q_block_ret (q_then_ret ?_))))
        have hr0 : (false : Bool) = (Ref.sameInts a b) := by
          simp only [Ref.sameInts]
          grind [List.ext_getElem]
        refine q_end0 (v := .bool false) (rt1 rfl (r_tmp rfl)) (i := 0) rfl ?_
        exact (by have hcc := congrArg (fun (y0 : Bool) => (.bool y0 : Value)) hr0; exact hcc)
      · simp only [bne_eq_false_iff_eq] at hc4
        refine c_skip ?_
        refine q_block_normal (q_then ?_)
        refine c_region ?_
        refine o_pure (p_move (v := .int .i64 (i : Int)) rfl) rfl rfl rfl ?_
        refine o_pure (p_addb (p := (i : Int)) (q := 1) rfl rfl (by omega)) rfl rfl rfl ?_
        refine o_pure (p_assign (v := .int .i64 ((i : Int) + 1)) rfl) rfl rfl rfl ?_
        refine o_nil ?_
        refine q_round hK2 (i + 1) ?_ ?_ ?_ ?_
        · clear hK2
          refine ⟨by omega, ?_⟩
          grind
        · (try dsimp only); omega
        · exact Sub.cons rfl (Sub.cons rfl (Sub.cons rfl (Sub.nil _)))
        · exact fun _ hw => HeapIs.pick hw [0] (by decide) rfl
    · simp only [decide_eq_false_iff_not, Int.not_lt] at hc3
      refine c_exit ?_
      refine q_then_exit (q_then_exit (q_block_exit (q_then ?_)))
      refine c_seq ?_
      refine c_region ?_
      refine o_pure (p_assign (v := .bool true) rfl) rfl rfl rfl ?_
      refine o_nil ?_
      refine q_then ?_
      refine c_ret ?_
      have hr0 : (true : Bool) = (Ref.sameInts a b) := by
        simp only [Ref.sameInts]
        grind [List.ext_getElem]
      refine q_end0 (v := .bool true) (rt1 rfl (r_tmp rfl)) (i := 0) rfl ?_
      exact (by have hcc := congrArg (fun (y0 : Bool) => (.bool y0 : Value)) hr0; exact hcc)

set_option maxHeartbeats 8000000 in
set_option maxRecDepth 100000 in
theorem shardErr_ok (s : DShard) : Fn0 Try.prog 36 [.agg #[.string s.name, .int .i64 s.weight]] (fun _ => True) (.int .i64 (Shd.one s)) := by
  refine fn0 (nt := 11) (F0 := [(0, .agg #[.string s.name, .int .i64 s.weight])]) Try.func36 rfl Try.ntmps36 rfl rfl (fun w0 hpre => ?_)
  refine c_seq ?_
  refine c_region ?_
  refine o_box (v := .agg #[.string s.name, .int .i64 s.weight]) rfl rfl (fun B1 => ?_)
  refine o_pure (p_assign (v := .int .i64 0) rfl) rfl rfl rfl ?_
  refine o_nil ?_
  refine q_then ?_
  refine c_seq ?_
  refine c_seq ?_
  refine c_region ?_
  refine o_pure (p_fieldAddr (B := B1) (j := 0) (j' := 1) rfl fo50_1 rfl) rfl rfl rfl ?_
  refine o_pure (p_load (i := 0) (v := .int .i64 s.weight) rfl rfl sh3 rfl) rfl rfl rfl ?_
  refine o_call0 (v := .bool (Ref.between s.weight (1 : Int) (8 : Int))) rfl (between_ok s.weight (1 : Int) (8 : Int)) hf61 (fun _ _ => trivial) rfl ?_
  refine o_pure (p_not (b := (Ref.between s.weight (1 : Int) (8 : Int))) rfl) rfl rfl rfl ?_
  refine o_nil ?_
  refine q_then ?_
  refine c_cond (b := (!(Ref.between s.weight (1 : Int) (8 : Int)))) rfl (fun hc2 => ?_) (fun hc2 => ?_)
  · simp only [Bool.not_eq_true'] at hc2
    have hbt := Shd.between0 (by simpa using hc2)
    refine c_seq ?_
    refine c_region ?_
    refine o_pure (p_assign (v := .int .i64 3) rfl) rfl rfl rfl ?_
    refine o_nil ?_
    refine q_then ?_
    refine c_ret ?_
    refine q_then_ret ?_
    have hr0 : (3 : Int) = (Shd.one s) := by
      first | exact Shd.one1 (by omega) | exact Shd.one2 (by omega) (by omega) | exact Shd.one3 (by omega) (by omega)
    refine q_end0 (v := .int .i64 3) (rt1 rfl (r_tmp rfl)) (i := 1) rfl ?_
    exact (by have hcc := congrArg (fun (y0 : Int) => (.int .i64 y0 : Value)) hr0; exact hcc)
  · simp only [Bool.not_eq_false'] at hc2
    have hbt := Shd.between1 (by simpa using hc2)
    refine c_skip ?_
    refine q_then ?_
    refine c_seq ?_
    refine c_seq ?_
    refine c_region ?_
    refine o_pure (p_fieldAddr (B := B1) (j := 0) (j' := 0) rfl fo50_0 rfl) rfl rfl rfl ?_
    refine o_pure (p_load (i := 0) (v := .string s.name) rfl rfl sh9 rfl) rfl rfl rfl ?_
    refine o_pure (p_len_string rfl rfl Try.underlying9) rfl rfl rfl ?_
    refine o_pure (p_gt (p := (s.name.size : Int)) (q := 40) rfl rfl) rfl rfl rfl ?_
    refine o_nil ?_
    refine q_then ?_
    refine c_cond (b := decide (40 < (s.name.size : Int))) rfl (fun hc3 => ?_) (fun hc3 => ?_)
    · simp only [decide_eq_true_eq] at hc3
      refine c_seq ?_
      refine c_region ?_
      refine o_pure (p_assign (v := .int .i64 2) rfl) rfl rfl rfl ?_
      refine o_nil ?_
      refine q_then ?_
      refine c_ret ?_
      refine q_then_ret ?_
      have hr0 : (2 : Int) = (Shd.one s) := by
        first | exact Shd.one1 (by omega) | exact Shd.one2 (by omega) (by omega) | exact Shd.one3 (by omega) (by omega)
      refine q_end0 (v := .int .i64 2) (rt1 rfl (r_tmp rfl)) (i := 1) rfl ?_
      exact (by have hcc := congrArg (fun (y0 : Int) => (.int .i64 y0 : Value)) hr0; exact hcc)
    · simp only [decide_eq_false_iff_not, Int.not_lt] at hc3
      refine c_skip ?_
      refine q_then ?_
      refine c_seq ?_
      refine c_region ?_
      refine o_pure (p_assign (v := .int .i64 0) rfl) rfl rfl rfl ?_
      refine o_nil ?_
      refine q_then ?_
      refine c_ret ?_
      have hr0 : (0 : Int) = (Shd.one s) := by
        first | exact Shd.one1 (by omega) | exact Shd.one2 (by omega) (by omega) | exact Shd.one3 (by omega) (by omega)
      refine q_end0 (v := .int .i64 0) (rt1 rfl (r_tmp rfl)) (i := 1) rfl ?_
      exact (by have hcc := congrArg (fun (y0 : Int) => (.int .i64 y0 : Value)) hr0; exact hcc)

set_option maxHeartbeats 8000000 in
set_option maxRecDepth 100000 in
theorem shardCheck_ok (l : List DShard) (al : Option Addr) (cl : Nat) : Fn0 Try.prog 39 [.slice al l.length cl] (fun w => Rd tShard w al cl l) (.int .i64 (Shd.check l)) := by
  refine fn0 (nt := 39) (F0 := [(0, .slice al l.length cl)]) Try.func39 rfl Try.ntmps39 rfl rfl (fun w0 hpre => ?_)
  have hl := hpre
  have hlhl := hl.2.1
  refine c_seq ?_
  refine c_region ?_
  refine o_pure (p_assign (v := .int .i64 0) rfl) rfl rfl rfl ?_
  refine o_nil ?_
  refine q_then ?_
  refine c_seq ?_
  refine c_seq ?_
  refine c_region ?_
  refine o_pure (p_move (v := .slice al l.length cl) rfl) rfl rfl rfl ?_
  refine o_pure (p_len_slice (len := l.length) rfl rfl Try.underlying43) rfl rfl rfl ?_
  refine o_pure (p_gt (p := (l.length : Int)) (q := 20) rfl rfl) rfl rfl rfl ?_
  refine o_nil ?_
  refine q_then ?_
  refine c_cond (b := decide (20 < (l.length : Int))) rfl (fun hc1 => ?_) (fun hc1 => ?_)
  · simp only [decide_eq_true_eq] at hc1
    refine c_seq ?_
    refine c_region ?_
    refine o_pure (p_assign (v := .int .i64 2) rfl) rfl rfl rfl ?_
    refine o_nil ?_
    refine q_then ?_
    refine c_ret ?_
    refine q_then_ret ?_
    have hr0 : (2 : Int) = (Shd.check l) := by
      first | exact Shd.many (by omega) | exact hC.twice2 (k := k) (by omega) (by omega) hone (by omega) (by assumption) | exact hI.bad2 (by omega) (by omega) (by assumption) | exact hI.done (by omega) (by omega)
    refine q_end0 (v := .int .i64 2) (rt1 rfl (r_tmp rfl)) (i := 0) rfl ?_
    exact (by have hcc := congrArg (fun (y0 : Int) => (.int .i64 y0 : Value)) hr0; exact hcc)
  · simp only [decide_eq_false_iff_not, Int.not_lt] at hc1
    refine c_skip ?_
    refine q_then ?_
    refine c_seq ?_
    refine c_seq ?_
    refine c_region ?_
    refine o_pure (p_assign (v := .int .i64 0) rfl) rfl rfl rfl ?_
    refine o_nil ?_
    refine q_then ?_
    refine c_block ?_
    refine c_loop (St := Nat)
      (fun i => [(0, .slice al l.length cl), (3, .int .i64 (i : Int))])
      (fun i => [base w0])
      (fun i => Shd.CI l i)
      (fun i => l.length - i)
      0 ?_ (Sub.cons rfl (Sub.cons rfl (Sub.nil _))) (fun _ hw => hw) ?_
    · exact Shd.CI.start l
    rintro i hI K hK2
    have hC := hI
    have hle := hI.le
    show SC _ _ Try.prog 39 w0 _ _ [(0, .slice al l.length cl), (3, .int .i64 (i : Int))] [base w0]
    refine c_seq ?_
    refine c_seq ?_
    refine c_region ?_
    refine o_pure (p_move (v := .int .i64 (i : Int)) rfl) rfl rfl rfl ?_
    refine o_pure (p_move (v := .slice al l.length cl) rfl) rfl rfl rfl ?_
    refine o_pure (p_len_slice (len := l.length) rfl rfl Try.underlying43) rfl rfl rfl ?_
    refine o_pure (p_lt (p := (i : Int)) (q := (l.length : Int)) rfl rfl) rfl rfl rfl ?_
    refine o_nil ?_
    refine q_then ?_
    refine c_cond (b := decide ((i : Int) < (l.length : Int))) rfl (fun hc3 => ?_) (fun hc3 => ?_)
    · simp only [decide_eq_true_eq] at hc3
      refine c_skip ?_
      refine q_then ?_
      refine c_seq ?_
      refine c_block ?_
      refine c_seq ?_
      refine c_region ?_
      refine o_pure (p_move (v := .slice al l.length cl) rfl) rfl rfl rfl ?_
      refine o_pure (p_move (v := .int .i64 (i : Int)) rfl) rfl rfl rfl ?_
      refine o_pure (p_indexAddr (L := l) (T := tShard) (i := (i : Int)) rfl rfl (rd_base (i := 0) rfl hl) Try.underlying43 sz50 (by omega) (by omega)) rfl rfl rfl ?_
      refine o_pure (p_loadEn (i := i) (T := tShard) (L := l) (vs := [.string ((l.getD i default).name), .int .i64 ((l.getD i default).weight)]) rfl (rd_base (i := 0) rfl hl) (by first | assumption | omega) sh50 (congrArg tShard.enc (getd_at (by first | assumption | omega) default))) rfl rfl rfl ?_
      refine o_call0 (v := .int .i64 (Shd.one (l.getD i default))) rfl (shardErr_ok (l.getD i default)) hf36 (fun _ _ => trivial) rfl ?_
      refine o_pure (p_assign (v := .int .i64 (Shd.one (l.getD i default))) rfl) rfl rfl rfl ?_
      refine o_nil ?_
      refine q_then ?_
      refine c_seq ?_
      refine c_seq ?_
      refine c_region ?_
      refine o_pure (p_move (v := .int .i64 (Shd.one (l.getD i default))) rfl) rfl rfl rfl ?_
      refine o_pure (p_ne (p := (Shd.one (l.getD i default))) (q := 0) rfl rfl) rfl rfl rfl ?_
      refine o_nil ?_
      refine q_then ?_
      refine c_cond (b := ((Shd.one (l.getD i default)) != 0)) rfl (fun hc4 => ?_) (fun hc4 => ?_)
      · simp only [bne_iff_ne, ne_eq] at hc4
        refine c_seq ?_
        refine c_region ?_
        refine o_pure (p_move (v := .int .i64 (Shd.one (l.getD i default))) rfl) rfl rfl rfl ?_
        refine o_pure (p_assign (v := .int .i64 (Shd.one (l.getD i default))) rfl) rfl rfl rfl ?_
        refine o_nil ?_
        refine q_then ?_
        refine c_ret ?_
        refine q_then_ret (q_block_ret (q_then_ret (q_then_ret (q_block_ret (q_then_ret ?_)))))
        have hr0 : ((Shd.one (l.getD i default)) : Int) = (Shd.check l) := by
          first | exact Shd.many (by omega) | exact hC.twice2 (k := k) (by omega) (by omega) hone (by omega) (by assumption) | exact hI.bad2 (by omega) (by omega) (by assumption) | exact hI.done (by omega) (by omega)
        refine q_end0 (v := .int .i64 (Shd.one (l.getD i default))) (rt1 rfl (r_tmp rfl)) (i := 0) rfl ?_
        exact (by have hcc := congrArg (fun (y0 : Int) => (.int .i64 y0 : Value)) hr0; exact hcc)
      · simp only [bne_eq_false_iff_eq] at hc4
        have hone := hc4
        refine c_skip ?_
        refine q_then ?_
        refine c_seq ?_
        refine c_region ?_
        refine o_pure (p_assign (v := .int .i64 0) rfl) rfl rfl rfl ?_
        refine o_nil ?_
        refine q_then ?_
        refine c_block ?_
        refine c_loop (St := Nat)
          (fun k => [(0, .slice al l.length cl), (3, .int .i64 (i : Int)), (5, .int .i64 (k : Int))])
          (fun k => [base w0])
          (fun k => Shd.KI l i k)
          (fun k => i - k)
          0 ?_ (Sub.cons rfl (Sub.cons rfl (Sub.cons rfl (Sub.nil _)))) (fun _ hw => hw) ?_
        · exact Shd.KI.start l i
        rintro k hI K hK5
        have hk := hI.le
        show SC _ _ Try.prog 39 w0 _ _ [(0, .slice al l.length cl), (3, .int .i64 (i : Int)), (5, .int .i64 (k : Int))] [base w0]
        refine c_seq ?_
        refine c_seq ?_
        refine c_region ?_
        refine o_pure (p_move (v := .int .i64 (k : Int)) rfl) rfl rfl rfl ?_
        refine o_pure (p_move (v := .int .i64 (i : Int)) rfl) rfl rfl rfl ?_
        refine o_pure (p_lt (p := (k : Int)) (q := (i : Int)) rfl rfl) rfl rfl rfl ?_
        refine o_nil ?_
        refine q_then ?_
        refine c_cond (b := decide ((k : Int) < (i : Int))) rfl (fun hc6 => ?_) (fun hc6 => ?_)
        · simp only [decide_eq_true_eq] at hc6
          refine c_skip ?_
          refine q_then ?_
          refine c_seq ?_
          refine c_block ?_
          refine c_seq ?_
          refine c_draw hmix (by kernel_rfl) ?_
          refine w_pure (p_move (v := .slice al l.length cl) rfl) rfl rfl rfl ?_
          refine w_pure (p_move (v := .int .i64 (k : Int)) rfl) rfl rfl rfl ?_
          refine w_pure (p_indexAddr (L := l) (T := tShard) (i := (k : Int)) rfl rfl (rd_base (i := 0) rfl hl) Try.underlying43 sz50 (by omega) (by omega)) rfl rfl rfl ?_
          refine w_pure (p_fieldAddrE rfl fo50_0) rfl rfl rfl ?_
          refine w_pure (p_loadF (i := k) (j := 0) (T := tShard) (L := l) (v := .string ((l.getD k default).name)) rfl (rd_base (i := 0) rfl hl) (by first | assumption | omega) sh9 (congrArg (fun z => (tShard.enc z)[0]?) (getd_at (by first | assumption | omega) default))) rfl rfl rfl ?_
          refine w_pure (p_move (v := .slice al l.length cl) rfl) rfl rfl rfl ?_
          refine w_pure (p_move (v := .int .i64 (i : Int)) rfl) rfl rfl rfl ?_
          refine w_pure (p_indexAddr (L := l) (T := tShard) (i := (i : Int)) rfl rfl (rd_base (i := 0) rfl hl) Try.underlying43 sz50 (by omega) (by omega)) rfl rfl rfl ?_
          refine w_pure (p_fieldAddrE rfl fo50_0) rfl rfl rfl ?_
          refine w_pure (p_loadF (i := i) (j := 0) (T := tShard) (L := l) (v := .string ((l.getD i default).name)) rfl (rd_base (i := 0) rfl hl) (by first | assumption | omega) sh9 (congrArg (fun z => (tShard.enc z)[0]?) (getd_at (by first | assumption | omega) default))) rfl rfl rfl ?_
          refine w_pure (p_eqStr (s := (l.getD k default).name) (t := (l.getD i default).name) rfl rfl) rfl rfl rfl ?_
          refine w_nil ?_
          refine q_then ?_
          refine c_cond (b := decide ((l.getD k default).name = (l.getD i default).name)) rfl (fun hc7 => ?_) (fun hc7 => ?_)
          · simp only [decide_eq_true_eq] at hc7
            refine c_seq ?_
            refine c_region ?_
            refine o_pure (p_assign (v := .int .i64 6) rfl) rfl rfl rfl ?_
            refine o_nil ?_
            refine q_then ?_
            refine c_ret ?_
            refine q_block_ret (q_then_ret (q_then_ret (q_block_ret (q_block_ret (q_then_ret (q_then_ret (q_block_ret (q_then_ret ?_))))))))
            have hr0 : (6 : Int) = (Shd.check l) := by
              first | exact Shd.many (by omega) | exact hC.twice2 (k := k) (by omega) (by omega) hone (by omega) (by assumption) | exact hI.bad2 (by omega) (by omega) (by assumption) | exact hI.done (by omega) (by omega)
            refine q_end0 (v := .int .i64 6) (rt1 rfl (r_tmp rfl)) (i := 0) rfl ?_
            exact (by have hcc := congrArg (fun (y0 : Int) => (.int .i64 y0 : Value)) hr0; exact hcc)
          · simp only [decide_eq_false_iff_not] at hc7
            refine c_skip ?_
            refine q_block_normal (q_then ?_)
            refine c_region ?_
            refine o_pure (p_move (v := .int .i64 (k : Int)) rfl) rfl rfl rfl ?_
            refine o_pure (p_addb (p := (k : Int)) (q := 1) rfl rfl (by omega)) rfl rfl rfl ?_
            refine o_pure (p_assign (v := .int .i64 ((k : Int) + 1)) rfl) rfl rfl rfl ?_
            refine o_nil ?_
            refine q_round hK5 (k + 1) ?_ ?_ ?_ ?_
            · clear hK5
              exact hI.next (by omega) (by assumption)
            · (try dsimp only); omega
            · exact Sub.cons rfl (Sub.cons rfl (Sub.cons rfl (Sub.nil _)))
            · exact fun _ hw => HeapIs.pick hw [0] (by decide) rfl
        · simp only [decide_eq_false_iff_not, Int.not_lt] at hc6
          refine c_exit ?_
          refine q_then_exit (q_then_exit (q_block_exit (q_block_normal (q_then ?_))))
          refine c_region ?_
          refine o_pure (p_move (v := .int .i64 (i : Int)) rfl) rfl rfl rfl ?_
          refine o_pure (p_addb (p := (i : Int)) (q := 1) rfl rfl (by omega)) rfl rfl rfl ?_
          refine o_pure (p_assign (v := .int .i64 ((i : Int) + 1)) rfl) rfl rfl rfl ?_
          refine o_nil ?_
          refine q_round hK2 (i + 1) ?_ ?_ ?_ ?_
          · clear hK2
            exact hC.next2 (by omega) hone hI (by omega)
          · (try dsimp only); omega
          · exact Sub.cons rfl (Sub.cons rfl (Sub.nil _))
          · exact fun _ hw => HeapIs.pick hw [0] (by decide) rfl
    · simp only [decide_eq_false_iff_not, Int.not_lt] at hc3
      refine c_exit ?_
      refine q_then_exit (q_then_exit (q_block_exit (q_then ?_)))
      refine c_seq ?_
      refine c_region ?_
      refine o_pure (p_assign (v := .int .i64 0) rfl) rfl rfl rfl ?_
      refine o_nil ?_
      refine q_then ?_
      refine c_ret ?_
      have hr0 : (0 : Int) = (Shd.check l) := by
        first | exact Shd.many (by omega) | exact hC.twice2 (k := k) (by omega) (by omega) hone (by omega) (by assumption) | exact hI.bad2 (by omega) (by omega) (by assumption) | exact hI.done (by omega) (by omega)
      refine q_end0 (v := .int .i64 0) (rt1 rfl (r_tmp rfl)) (i := 0) rfl ?_
      exact (by have hcc := congrArg (fun (y0 : Int) => (.int .i64 y0 : Value)) hr0; exact hcc)

set_option maxHeartbeats 8000000 in
set_option maxRecDepth 100000 in
theorem shardScore_ok (s : DShard) (key : ByteArray) (hy1 : s.name.size ≤ 40 ∧ s.weight ≤ 8) (hy2 : key.size ≤ 40) : Fn0 Try.prog 37 [.agg #[.string s.name, .int .i64 s.weight], .string key] (fun _ => True) (.int .u64 ((Shd.score s (Hash.raw key)).toNat : Int)) := by
  refine fn0 (nt := 30) (F0 := [(0, .agg #[.string s.name, .int .i64 s.weight]), (1, .string key)]) Try.func37 rfl Try.ntmps37 rfl rfl (fun w0 hpre => ?_)
  refine c_seq ?_
  refine c_region ?_
  refine o_box (v := .agg #[.string s.name, .int .i64 s.weight]) rfl rfl (fun B1 => ?_)
  refine o_pure (p_assign (v := .int .u64 ((0 : UInt64).toNat : Int)) rfl) rfl rfl rfl ?_
  refine o_nil ?_
  refine q_then ?_
  refine c_seq ?_
  refine c_region ?_
  refine o_pure (p_assign (v := .int .u64 ((0 : UInt64).toNat : Int)) rfl) rfl rfl rfl ?_
  refine o_nil ?_
  refine q_then ?_
  refine c_seq ?_
  refine c_seq ?_
  refine c_region ?_
  refine o_pure (p_assign (v := .int .i64 0) rfl) rfl rfl rfl ?_
  refine o_nil ?_
  refine q_then ?_
  refine c_block ?_
  refine c_loop (St := UInt64 × Nat)
    (fun ⟨best, k⟩ => [(1, .string key), (2, .pointer (some ⟨B1, 0, none⟩)), (5, .int .u64 (best.toNat : Int)), (6, .int .i64 (k : Int))])
    (fun ⟨best, k⟩ => [box B1 [.string s.name, .int .i64 s.weight] 50, base w0])
    (fun ⟨best, k⟩ => k ≤ s.weight.toNat ∧ best = Shd.scoreTo s (Hash.raw key) k)
    (fun ⟨best, k⟩ => s.weight.toNat - k)
    ((0 : UInt64), 0) ?_ (Sub.cons rfl (Sub.cons rfl (Sub.cons rfl (Sub.cons rfl (Sub.nil _))))) (fun _ hw => hw) ?_
  · exact ⟨Nat.zero_le _, rfl⟩
  rintro ⟨best, k⟩ hI K hK2
  show SC _ _ Try.prog 30 w0 _ _ [(1, .string key), (2, .pointer (some ⟨B1, 0, none⟩)), (5, .int .u64 (best.toNat : Int)), (6, .int .i64 (k : Int))] [box B1 [.string s.name, .int .i64 s.weight] 50, base w0]
  refine c_seq ?_
  refine c_seq ?_
  refine c_region ?_
  refine o_pure (p_move (v := .int .i64 (k : Int)) rfl) rfl rfl rfl ?_
  refine o_pure (p_fieldAddr (B := B1) (j := 0) (j' := 1) rfl fo50_1 rfl) rfl rfl rfl ?_
  refine o_pure (p_load (i := 0) (v := .int .i64 s.weight) rfl rfl sh3 rfl) rfl rfl rfl ?_
  refine o_pure (p_lt (p := (k : Int)) (q := s.weight) rfl rfl) rfl rfl rfl ?_
  refine o_nil ?_
  refine q_then ?_
  refine c_cond (b := decide ((k : Int) < s.weight)) rfl (fun hc3 => ?_) (fun hc3 => ?_)
  · simp only [decide_eq_true_eq] at hc3
    refine c_skip ?_
    refine q_then ?_
    refine c_seq ?_
    refine c_block ?_
    refine c_seq ?_
    refine c_draw hmix (by kernel_rfl) ?_
    refine w_pure (p_move (v := .string key) rfl) rfl rfl rfl ?_
    refine w_call0 (v := .int .u64 ((Hash.raw key).toNat : Int)) rfl (mixSum_ok key) hf64 (fun w hw => (by first | assumption | omega | decide | (rw [ByteArray.size_append]; omega) | simp)) rfl ?_
    refine w_pure (p_fieldAddr (B := B1) (j := 0) (j' := 0) rfl fo50_0 rfl) rfl rfl rfl ?_
    refine w_pure (p_load (i := 0) (v := .string s.name) rfl rfl sh9 rfl) rfl rfl rfl ?_
    refine w_call0 (v := .int .u64 ((Hash.raw s.name).toNat : Int)) rfl (mixSum_ok s.name) hf64 (fun w hw => (by first | assumption | omega | decide | (rw [ByteArray.size_append]; omega) | simp)) rfl ?_
    refine w_pure (p_move (v := .int .i64 (k : Int)) rfl) rfl rfl rfl ?_
    refine w_pure (pu_conv (z := (k : Int)) rfl Try.underlying3 Try.underlying59) rfl rfl rfl ?_
    refine w_pure (pu_xor (p := (Hash.raw s.name)) (q := (toU (k : Int))) rfl rfl) rfl rfl rfl ?_
    refine w_call0 (v := .int .u64 ((Hash.mix ((Hash.raw s.name) ^^^ (toU (k : Int)))).toNat : Int)) rfl (mixOf_ok ((Hash.raw s.name) ^^^ (toU (k : Int)))) hf63 (fun _ _ => trivial) rfl ?_
    refine w_pure (pu_xor (p := (Hash.raw key)) (q := (Hash.mix ((Hash.raw s.name) ^^^ (toU (k : Int))))) rfl rfl) rfl rfl rfl ?_
    refine w_call0 (v := .int .u64 ((Hash.mix ((Hash.raw key) ^^^ (Hash.mix ((Hash.raw s.name) ^^^ (toU (k : Int)))))).toNat : Int)) rfl (mixOf_ok ((Hash.raw key) ^^^ (Hash.mix ((Hash.raw s.name) ^^^ (toU (k : Int)))))) hf63 (fun _ _ => trivial) rfl ?_
    refine w_pure (p_assign (v := .int .u64 ((Hash.mix ((Hash.raw key) ^^^ (Hash.mix ((Hash.raw s.name) ^^^ (toU (k : Int)))))).toNat : Int)) rfl) rfl rfl rfl ?_
    refine w_nil ?_
    refine q_then ?_
    refine c_seq ?_
    refine c_region ?_
    refine o_pure (p_move (v := .int .u64 ((Hash.mix ((Hash.raw key) ^^^ (Hash.mix ((Hash.raw s.name) ^^^ (toU (k : Int)))))).toNat : Int)) rfl) rfl rfl rfl ?_
    refine o_pure (p_move (v := .int .u64 (best.toNat : Int)) rfl) rfl rfl rfl ?_
    refine o_pure (pu_gt (p := (Hash.mix ((Hash.raw key) ^^^ (Hash.mix ((Hash.raw s.name) ^^^ (toU (k : Int))))))) (q := best) rfl rfl) rfl rfl rfl ?_
    refine o_nil ?_
    refine q_then ?_
    refine c_cond (b := decide (best < (Hash.mix ((Hash.raw key) ^^^ (Hash.mix ((Hash.raw s.name) ^^^ (toU (k : Int)))))))) rfl (fun hc4 => ?_) (fun hc4 => ?_)
    · simp only [decide_eq_true_eq] at hc4
      refine c_region ?_
      refine o_pure (p_move (v := .int .u64 ((Hash.mix ((Hash.raw key) ^^^ (Hash.mix ((Hash.raw s.name) ^^^ (toU (k : Int)))))).toNat : Int)) rfl) rfl rfl rfl ?_
      refine o_pure (p_assign (v := .int .u64 ((Hash.mix ((Hash.raw key) ^^^ (Hash.mix ((Hash.raw s.name) ^^^ (toU (k : Int)))))).toNat : Int)) rfl) rfl rfl rfl ?_
      refine o_nil ?_
      refine q_block_normal (q_then ?_)
      refine c_region ?_
      refine o_pure (p_move (v := .int .i64 (k : Int)) rfl) rfl rfl rfl ?_
      refine o_pure (p_addb (p := (k : Int)) (q := 1) rfl rfl (by omega)) rfl rfl rfl ?_
      refine o_pure (p_assign (v := .int .i64 ((k : Int) + 1)) rfl) rfl rfl rfl ?_
      refine o_nil ?_
      refine q_round hK2 ((Hash.mix ((Hash.raw key) ^^^ (Hash.mix ((Hash.raw s.name) ^^^ (toU (k : Int)))))), k + 1) ?_ ?_ ?_ ?_
      · clear hK2
        first | exact ⟨by omega, Shd.sc_hi hI.2 (by assumption)⟩ | exact ⟨by omega, Shd.sc_lo hI.2 (by assumption)⟩
      · (try dsimp only); omega
      · exact Sub.cons rfl (Sub.cons rfl (Sub.cons rfl (Sub.cons rfl (Sub.nil _))))
      · exact fun _ hw => HeapIs.pick hw [0, 1] (by decide) rfl
    · simp only [decide_eq_false_iff_not, Int.not_lt] at hc4
      refine c_skip ?_
      refine q_block_normal (q_then ?_)
      refine c_region ?_
      refine o_pure (p_move (v := .int .i64 (k : Int)) rfl) rfl rfl rfl ?_
      refine o_pure (p_addb (p := (k : Int)) (q := 1) rfl rfl (by omega)) rfl rfl rfl ?_
      refine o_pure (p_assign (v := .int .i64 ((k : Int) + 1)) rfl) rfl rfl rfl ?_
      refine o_nil ?_
      refine q_round hK2 (best, k + 1) ?_ ?_ ?_ ?_
      · clear hK2
        first | exact ⟨by omega, Shd.sc_hi hI.2 (by assumption)⟩ | exact ⟨by omega, Shd.sc_lo hI.2 (by assumption)⟩
      · (try dsimp only); omega
      · exact Sub.cons rfl (Sub.cons rfl (Sub.cons rfl (Sub.cons rfl (Sub.nil _))))
      · exact fun _ hw => HeapIs.pick hw [0, 1] (by decide) rfl
  · simp only [decide_eq_false_iff_not, Int.not_lt] at hc3
    refine c_exit ?_
    refine q_then_exit (q_then_exit (q_block_exit (q_then ?_)))
    refine c_seq ?_
    refine c_region ?_
    refine o_pure (p_move (v := .int .u64 (best.toNat : Int)) rfl) rfl rfl rfl ?_
    refine o_pure (p_assign (v := .int .u64 (best.toNat : Int)) rfl) rfl rfl rfl ?_
    refine o_nil ?_
    refine q_then ?_
    refine c_ret ?_
    have hr0 : (best : UInt64) = (Shd.score s (Hash.raw key)) := by
      exact Shd.score_end hI.2 (by omega) hI.1
    refine q_end0 (v := .int .u64 (best.toNat : Int)) (rt1 rfl (r_tmp rfl)) (i := 1) rfl ?_
    exact (by have hcc := congrArg (fun (y0 : UInt64) => (.int .u64 (y0.toNat : Int) : Value)) hr0; exact hcc)

set_option maxHeartbeats 8000000 in
set_option maxRecDepth 100000 in
theorem ownerErr_ok (l : List DShard) (al : Option Addr) (cl : Nat) (key : ByteArray) : Fn0 Try.prog 28 [.slice al l.length cl, .string key] (fun w => Rd tShard w al cl l) (.int .i64 (Shd.ownErr l key)) := by
  refine fn0 (nt := 23) (F0 := [(0, .slice al l.length cl), (1, .string key)]) Try.func28 rfl Try.ntmps28 rfl rfl (fun w0 hpre => ?_)
  have hl := hpre
  have hlhl := hl.2.1
  refine c_seq ?_
  refine c_region ?_
  refine o_pure (p_assign (v := .int .i64 0) rfl) rfl rfl rfl ?_
  refine o_nil ?_
  refine q_then ?_
  refine c_seq ?_
  refine c_region ?_
  refine o_pure (p_move (v := .slice al l.length cl) rfl) rfl rfl rfl ?_
  refine o_call0 (v := .int .i64 (Shd.check l)) rfl (shardCheck_ok l al cl) hf39 (fun w hw => (rd_base (i := 0) rfl hl) w hw) rfl ?_
  refine o_pure (p_assign (v := .int .i64 (Shd.check l)) rfl) rfl rfl rfl ?_
  refine o_nil ?_
  refine q_then ?_
  refine c_seq ?_
  refine c_seq ?_
  refine c_region ?_
  refine o_pure (p_move (v := .int .i64 (Shd.check l)) rfl) rfl rfl rfl ?_
  refine o_pure (p_eq (p := (Shd.check l)) (q := 0) rfl rfl) rfl rfl rfl ?_
  refine o_pure (p_move (v := .bool ((Shd.check l) == 0)) rfl) rfl rfl rfl ?_
  refine o_and (p := 14) 4 (decide (40 < (key.size : Int))) ?_ ?_ ?_
  · intro hb1 hk
    simp only [beq_iff_eq] at hb1
    refine o_unguard 10 rfl rfl ?_
    refine o_pure (p_move (v := .string key) rfl) rfl rfl rfl ?_
    refine o_unguard 10 rfl rfl ?_
    refine o_pure (p_len_string rfl rfl Try.underlying9) rfl rfl rfl ?_
    refine o_unguard 10 rfl rfl ?_
    refine o_pure (p_gt (p := (key.size : Int)) (q := 40) rfl rfl) rfl rfl rfl ?_
    refine o_pure (p_pick_true (u := .bool (decide (40 < (key.size : Int)))) rfl rfl) rfl rfl rfl ?_
    exact o_sub (Sub.cons rfl (Sub.skip rfl (Sub.skip rfl (Sub.skip rfl (Sub.skip rfl (Sub.skip rfl (Sub.refl _))))))) hk
  · intro hb1 hk
    refine o_guard_no rfl 10 rfl rfl rfl rfl rfl ?_
    refine o_guard_no rfl 10 rfl rfl rfl rfl rfl ?_
    refine o_guard_no rfl 10 rfl rfl rfl rfl rfl ?_
    refine o_pure (p_pick_false (v := .bool false) rfl rfl) rfl rfl rfl ?_
    exact o_sub (Sub.cons rfl (Sub.skip rfl (Sub.skip rfl (Sub.skip rfl (Sub.skip rfl (Sub.skip rfl (Sub.refl _))))))) hk
  refine o_nil ?_
  refine q_then ?_
  refine c_cond (b := (((Shd.check l) == 0) && decide (40 < (key.size : Int)))) rfl (fun hc2 => ?_) (fun hc2 => ?_)
  · simp only [Bool.and_eq_true, beq_iff_eq, decide_eq_true_eq] at hc2
    refine c_region ?_
    refine o_pure (p_assign (v := .int .i64 2) rfl) rfl rfl rfl ?_
    refine o_nil ?_
    refine q_then ?_
    refine c_seq ?_
    refine c_seq ?_
    refine c_region ?_
    refine o_pure (p_move (v := .int .i64 2) rfl) rfl rfl rfl ?_
    refine o_pure (p_eq (p := 2) (q := 0) rfl rfl) rfl rfl rfl ?_
    refine o_pure (p_move (v := .bool false) rfl) rfl rfl rfl ?_
    refine o_guard_no rfl 17 rfl rfl rfl rfl rfl ?_
    refine o_guard_no rfl 17 rfl rfl rfl rfl rfl ?_
    refine o_guard_no rfl 17 rfl rfl rfl rfl rfl ?_
    refine o_pure (p_pick_false (v := .bool false) rfl rfl) rfl rfl rfl ?_
    refine o_nil ?_
    refine q_then ?_
    refine c_false rfl ?_
    refine c_skip ?_
    refine q_then ?_
    refine c_seq ?_
    refine c_region ?_
    refine o_pure (p_move (v := .int .i64 2) rfl) rfl rfl rfl ?_
    refine o_pure (p_assign (v := .int .i64 2) rfl) rfl rfl rfl ?_
    refine o_nil ?_
    refine q_then ?_
    refine c_ret ?_
    have hr0 : (2 : Int) = (Shd.ownErr l key) := by
      first | exact Shd.oe1 key (by first | assumption | omega) | exact Shd.oe2 (by first | assumption | omega) (by omega) | exact Shd.oe3 (by first | assumption | omega) (by omega) (by omega) | exact Shd.oe4 (by first | assumption | omega) (by omega) (by omega) | exact Shd.oe5 (by omega) (by omega)
    refine q_end0 (v := .int .i64 2) (rt1 rfl (r_tmp rfl)) (i := 0) rfl ?_
    exact (by have hcc := congrArg (fun (y0 : Int) => (.int .i64 y0 : Value)) hr0; exact hcc)
  · simp only [Bool.and_eq_false_iff, beq_eq_false_iff_ne, ne_eq, decide_eq_false_iff_not, Int.not_lt] at hc2
    refine c_skip ?_
    refine q_then ?_
    refine c_seq ?_
    refine c_seq ?_
    refine c_region ?_
    refine o_pure (p_move (v := .int .i64 (Shd.check l)) rfl) rfl rfl rfl ?_
    refine o_pure (p_eq (p := (Shd.check l)) (q := 0) rfl rfl) rfl rfl rfl ?_
    refine o_pure (p_move (v := .bool ((Shd.check l) == 0)) rfl) rfl rfl rfl ?_
    refine o_and (p := 21) 4 ((l.length : Int) == 0) ?_ ?_ ?_
    · intro hb3 hk
      simp only [beq_iff_eq] at hb3
      refine o_unguard 17 rfl rfl ?_
      refine o_pure (p_move (v := .slice al l.length cl) rfl) rfl rfl rfl ?_
      refine o_unguard 17 rfl rfl ?_
      refine o_pure (p_len_slice (len := l.length) rfl rfl Try.underlying43) rfl rfl rfl ?_
      refine o_unguard 17 rfl rfl ?_
      refine o_pure (p_eq (p := (l.length : Int)) (q := 0) rfl rfl) rfl rfl rfl ?_
      refine o_pure (p_pick_true (u := .bool ((l.length : Int) == 0)) rfl rfl) rfl rfl rfl ?_
      exact o_sub (Sub.cons rfl (Sub.skip rfl (Sub.skip rfl (Sub.skip rfl (Sub.skip rfl (Sub.skip rfl (Sub.refl _))))))) hk
    · intro hb3 hk
      refine o_guard_no rfl 17 rfl rfl rfl rfl rfl ?_
      refine o_guard_no rfl 17 rfl rfl rfl rfl rfl ?_
      refine o_guard_no rfl 17 rfl rfl rfl rfl rfl ?_
      refine o_pure (p_pick_false (v := .bool false) rfl rfl) rfl rfl rfl ?_
      exact o_sub (Sub.cons rfl (Sub.skip rfl (Sub.skip rfl (Sub.skip rfl (Sub.skip rfl (Sub.skip rfl (Sub.refl _))))))) hk
    refine o_nil ?_
    refine q_then ?_
    refine c_cond (b := (((Shd.check l) == 0) && ((l.length : Int) == 0))) rfl (fun hc4 => ?_) (fun hc4 => ?_)
    · simp only [Bool.and_eq_true, beq_iff_eq] at hc4
      refine c_region ?_
      refine o_pure (p_assign (v := .int .i64 5) rfl) rfl rfl rfl ?_
      refine o_nil ?_
      refine q_then ?_
      refine c_seq ?_
      refine c_region ?_
      refine o_pure (p_move (v := .int .i64 5) rfl) rfl rfl rfl ?_
      refine o_pure (p_assign (v := .int .i64 5) rfl) rfl rfl rfl ?_
      refine o_nil ?_
      refine q_then ?_
      refine c_ret ?_
      have hr0 : (5 : Int) = (Shd.ownErr l key) := by
        first | exact Shd.oe1 key (by first | assumption | omega) | exact Shd.oe2 (by first | assumption | omega) (by omega) | exact Shd.oe3 (by first | assumption | omega) (by omega) (by omega) | exact Shd.oe4 (by first | assumption | omega) (by omega) (by omega) | exact Shd.oe5 (by omega) (by omega)
      refine q_end0 (v := .int .i64 5) (rt1 rfl (r_tmp rfl)) (i := 0) rfl ?_
      exact (by have hcc := congrArg (fun (y0 : Int) => (.int .i64 y0 : Value)) hr0; exact hcc)
    · simp only [Bool.and_eq_false_iff, beq_eq_false_iff_ne, ne_eq] at hc4
      refine c_skip ?_
      refine q_then ?_
      refine c_seq ?_
      refine c_region ?_
      refine o_pure (p_move (v := .int .i64 (Shd.check l)) rfl) rfl rfl rfl ?_
      refine o_pure (p_assign (v := .int .i64 (Shd.check l)) rfl) rfl rfl rfl ?_
      refine o_nil ?_
      refine q_then ?_
      refine c_ret ?_
      have hr0 : ((Shd.check l) : Int) = (Shd.ownErr l key) := by
        first | exact Shd.oe1 key (by first | assumption | omega) | exact Shd.oe2 (by first | assumption | omega) (by omega) | exact Shd.oe3 (by first | assumption | omega) (by omega) (by omega) | exact Shd.oe4 (by first | assumption | omega) (by omega) (by omega) | exact Shd.oe5 (by omega) (by omega)
      refine q_end0 (v := .int .i64 (Shd.check l)) (rt1 rfl (r_tmp rfl)) (i := 0) rfl ?_
      exact (by have hcc := congrArg (fun (y0 : Int) => (.int .i64 y0 : Value)) hr0; exact hcc)

set_option maxHeartbeats 8000000 in
set_option maxRecDepth 100000 in
theorem shardOwners_ok (l : List DShard) (al : Option Addr) (cl : Nat) (key : ByteArray) (many : Int) (hy1 : Shd.Ok l ∧ key.size ≤ 40 ∧ 1 ≤ many ∧ many ≤ (l.length : Int)) : FnM Try.prog 29 [.slice al l.length cl, .string key, .int .i64 many] (fun w => Rd tShard w al cl l) (Option Addr × Nat) (fun p => .slice p.1 ((Shd.ranked l key).take many.toNat).length p.2) (fun p S w => SlO tInt S w p.1 p.2 ((Shd.ranked l key).take many.toNat)) := by
  refine fnM (nt := 49) (F0 := [(0, .slice al l.length cl), (1, .string key), (2, .int .i64 many)]) Try.func29 rfl Try.ntmps29 rfl rfl (fun w0 hpre => ?_)
  have hl := hpre
  have hlhl := hl.2.1
  have h20 := hy1.1.len
  refine c_seq ?_
  refine c_region ?_
  refine o_pure (p_assign (v := .slice none 0 0) rfl) rfl rfl rfl ?_
  refine o_nil ?_
  refine q_then ?_
  refine c_seq ?_
  refine c_region ?_
  refine o_pure (p_assign (v := .slice none 0 0) rfl) rfl rfl rfl ?_
  refine o_nil ?_
  refine q_then ?_
  refine c_seq ?_
  refine c_block ?_
  refine c_ownNil tInt ?_
  refine c_loop (St := List Int × Option Addr × Nat × (Nat → Prop))
    (fun ⟨out, aout, cout, Sout⟩ => [(0, .slice al l.length cl), (1, .string key), (2, .int .i64 many), (7, .slice aout out.length cout)])
    (fun ⟨out, aout, cout, Sout⟩ => [own tInt Sout aout cout out, base w0])
    (fun ⟨out, aout, cout, Sout⟩ => Shd.SI l key many out)
    (fun ⟨out, aout, cout, Sout⟩ => (many - (out.length : Int)).toNat)
    ([], none, 0, (fun _ => False)) ?_ (Sub.cons rfl (Sub.cons rfl (Sub.cons rfl (Sub.cons rfl (Sub.nil _))))) (fun _ hw => hw) ?_
  · exact Shd.SI.start hy1.2.2.1
  rintro ⟨out, aout, cout, Sout⟩ hI K hK2
  have hS := hI
  have hsl := hI.le
  show SC _ _ Try.prog 49 w0 _ _ [(0, .slice al l.length cl), (1, .string key), (2, .int .i64 many), (7, .slice aout out.length cout)] [own tInt Sout aout cout out, base w0]
  refine c_seq ?_
  refine c_seq ?_
  refine c_region ?_
  refine o_pure (p_move (v := .slice aout out.length cout) rfl) rfl rfl rfl ?_
  refine o_pure (p_len_slice (len := out.length) rfl rfl Try.underlying45) rfl rfl rfl ?_
  refine o_pure (p_move (v := .int .i64 many) rfl) rfl rfl rfl ?_
  refine o_pure (p_lt (p := (out.length : Int)) (q := many) rfl rfl) rfl rfl rfl ?_
  refine o_nil ?_
  refine q_then ?_
  refine c_cond (b := decide ((out.length : Int) < many)) rfl (fun hc3 => ?_) (fun hc3 => ?_)
  · simp only [decide_eq_true_eq] at hc3
    refine c_skip ?_
    refine q_then ?_
    refine c_block ?_
    refine c_seq ?_
    refine c_region ?_
    refine o_pure (p_assign (v := .int .i64 (-1)) rfl) rfl rfl rfl ?_
    refine o_nil ?_
    refine q_then ?_
    refine c_seq ?_
    refine c_seq ?_
    refine c_region ?_
    refine o_pure (p_assign (v := .int .i64 0) rfl) rfl rfl rfl ?_
    refine o_nil ?_
    refine q_then ?_
    refine c_block ?_
    refine c_loop (St := Int × Nat)
      (fun ⟨best, i⟩ => [(0, .slice al l.length cl), (1, .string key), (2, .int .i64 many), (7, .slice aout out.length cout), (8, .int .i64 best), (9, .int .i64 (i : Int))])
      (fun ⟨best, i⟩ => [own tInt Sout aout cout out, base w0])
      (fun ⟨best, i⟩ => Shd.PI l (Hash.raw key) out best i)
      (fun ⟨best, i⟩ => l.length - i)
      ((-1), 0) ?_ (Sub.cons rfl (Sub.cons rfl (Sub.cons rfl (Sub.cons rfl (Sub.cons rfl (Sub.cons rfl (Sub.nil _))))))) (fun _ hw => hw) ?_
    · exact Shd.PI.start l _ out
    rintro ⟨best, i⟩ hI K hK4
    have hpl := hI.le
    have hp0 := hI.lo
    have hp1 := hI.hi
    show SC _ _ Try.prog 49 w0 _ _ [(0, .slice al l.length cl), (1, .string key), (2, .int .i64 many), (7, .slice aout out.length cout), (8, .int .i64 best), (9, .int .i64 (i : Int))] [own tInt Sout aout cout out, base w0]
    refine c_seq ?_
    refine c_seq ?_
    refine c_region ?_
    refine o_pure (p_move (v := .int .i64 (i : Int)) rfl) rfl rfl rfl ?_
    refine o_pure (p_move (v := .slice al l.length cl) rfl) rfl rfl rfl ?_
    refine o_pure (p_len_slice (len := l.length) rfl rfl Try.underlying43) rfl rfl rfl ?_
    refine o_pure (p_lt (p := (i : Int)) (q := (l.length : Int)) rfl rfl) rfl rfl rfl ?_
    refine o_nil ?_
    refine q_then ?_
    refine c_cond (b := decide ((i : Int) < (l.length : Int))) rfl (fun hc5 => ?_) (fun hc5 => ?_)
    · simp only [decide_eq_true_eq] at hc5
      refine c_skip ?_
      refine q_then ?_
      refine c_seq ?_
      refine c_block ?_
      refine c_seq ?_
      refine c_draw hmix (by kernel_rfl) ?_
      refine w_pure (p_move (v := .slice aout out.length cout) rfl) rfl rfl rfl ?_
      refine w_pure (p_move (v := .int .i64 (i : Int)) rfl) rfl rfl rfl ?_
      refine w_call0 (v := .bool (Ref.hasInt out (i : Int))) rfl (hasInt_ok out aout cout (i : Int)) hf34 (fun w hw => (rd_own (i := 0) rfl) w hw) rfl ?_
      refine w_pure (p_not (b := (Ref.hasInt out (i : Int))) rfl) rfl rfl rfl ?_
      refine w_pure (p_move (v := .bool (!(Ref.hasInt out (i : Int)))) rfl) rfl rfl rfl ?_
      refine w_and (p := 42) 18 (decide (best < 0) || decide ((Shd.score (l.getD best.toNat default) (Hash.raw key)) < (Shd.score (l.getD i default) (Hash.raw key)))) ?_ ?_ ?_
      · intro hb6 hk
        simp only [Bool.not_eq_true'] at hb6
        refine w_unguard 24 rfl rfl ?_
        refine w_pure (p_move (v := .int .i64 best) rfl) rfl rfl rfl ?_
        refine w_unguard 24 rfl rfl ?_
        refine w_pure (p_lt (p := best) (q := 0) rfl rfl) rfl rfl rfl ?_
        refine w_unguard 24 rfl rfl ?_
        refine w_pure (p_move (v := .bool (decide (best < 0))) rfl) rfl rfl rfl ?_
        refine w_or (p := 41) 14 (decide ((Shd.score (l.getD best.toNat default) (Hash.raw key)) < (Shd.score (l.getD i default) (Hash.raw key)))) ?_ ?_ ?_
        · intro hb7 hk
          simp only [decide_eq_false_iff_not, Int.not_lt] at hb7
          refine w_unguard 27 rfl rfl ?_
          refine w_pure (p_move (v := .slice al l.length cl) rfl) rfl rfl rfl ?_
          refine w_unguard 27 rfl rfl ?_
          refine w_pure (p_move (v := .int .i64 (i : Int)) rfl) rfl rfl rfl ?_
          refine w_unguard 27 rfl rfl ?_
          refine w_pure (p_indexAddr (L := l) (T := tShard) (i := (i : Int)) rfl rfl (rd_base (i := 1) rfl hl) Try.underlying43 sz50 (by omega) (by omega)) rfl rfl rfl ?_
          refine w_unguard 27 rfl rfl ?_
          refine w_pure (p_loadEn (i := i) (T := tShard) (L := l) (vs := [.string ((l.getD i default).name), .int .i64 ((l.getD i default).weight)]) rfl (rd_base (i := 1) rfl hl) (by first | assumption | omega) sh50 (congrArg tShard.enc (getd_at (by first | assumption | omega) default))) rfl rfl rfl ?_
          refine w_unguard 27 rfl rfl ?_
          refine w_pure (p_move (v := .string key) rfl) rfl rfl rfl ?_
          refine w_unguard 27 rfl rfl ?_
          refine w_call0 (v := .int .u64 ((Shd.score (l.getD i default) (Hash.raw key)).toNat : Int)) rfl (shardScore_ok (l.getD i default) key (by first | assumption | (have h9 := Shd.one_ok.1 (by assumption); omega) | (have h9 := hy1.1.getd (i := i) (by omega); omega) | (have h9 := hy1.1.getd (i := best.toNat) (by omega); omega) | (have h9 := Shd.one_ok.1 (And.left (by assumption)); omega)) (by first | assumption | omega | exact hy1.2.1)) hf37 (fun _ _ => trivial) rfl ?_
          refine w_unguard 27 rfl rfl ?_
          refine w_pure (p_move (v := .slice al l.length cl) rfl) rfl rfl rfl ?_
          refine w_unguard 27 rfl rfl ?_
          refine w_pure (p_move (v := .int .i64 best) rfl) rfl rfl rfl ?_
          refine w_unguard 27 rfl rfl ?_
          refine w_pure (p_indexAddr (L := l) (T := tShard) (i := best) rfl rfl (rd_base (i := 1) rfl hl) Try.underlying43 sz50 (by omega) (by omega)) rfl rfl rfl ?_
          refine w_unguard 27 rfl rfl ?_
          refine w_pure (p_loadEn (i := best.toNat) (T := tShard) (L := l) (vs := [.string ((l.getD best.toNat default).name), .int .i64 ((l.getD best.toNat default).weight)]) rfl (rd_base (i := 1) rfl hl) (by first | assumption | omega) sh50 (congrArg tShard.enc (getd_at (by first | assumption | omega) default))) rfl rfl rfl ?_
          refine w_unguard 27 rfl rfl ?_
          refine w_pure (p_move (v := .string key) rfl) rfl rfl rfl ?_
          refine w_unguard 27 rfl rfl ?_
          refine w_call0 (v := .int .u64 ((Shd.score (l.getD best.toNat default) (Hash.raw key)).toNat : Int)) rfl (shardScore_ok (l.getD best.toNat default) key (by first | assumption | (have h9 := Shd.one_ok.1 (by assumption); omega) | (have h9 := hy1.1.getd (i := i) (by omega); omega) | (have h9 := hy1.1.getd (i := best.toNat) (by omega); omega) | (have h9 := Shd.one_ok.1 (And.left (by assumption)); omega)) (by first | assumption | omega | exact hy1.2.1)) hf37 (fun _ _ => trivial) rfl ?_
          refine w_unguard 27 rfl rfl ?_
          refine w_pure (pu_gt (p := (Shd.score (l.getD i default) (Hash.raw key))) (q := (Shd.score (l.getD best.toNat default) (Hash.raw key))) rfl rfl) rfl rfl rfl ?_
          refine w_unguard 24 rfl rfl ?_
          refine w_pure (p_pick_false (v := .bool (decide ((Shd.score (l.getD best.toNat default) (Hash.raw key)) < (Shd.score (l.getD i default) (Hash.raw key))))) rfl rfl) rfl rfl rfl ?_
          exact w_sub (Sub.cons rfl (Sub.skip rfl (Sub.skip rfl (Sub.skip rfl (Sub.skip rfl (Sub.skip rfl (Sub.skip rfl (Sub.skip rfl (Sub.skip rfl (Sub.skip rfl (Sub.skip rfl (Sub.skip rfl (Sub.skip rfl (Sub.skip rfl (Sub.skip rfl (Sub.skip rfl (Sub.refl _))))))))))))))))) hk
        · intro hb7 hk
          refine w_guard_no rfl 27 rfl rfl rfl rfl rfl ?_
          refine w_guard_no rfl 27 rfl rfl rfl rfl rfl ?_
          refine w_guard_no rfl 27 rfl rfl rfl rfl rfl ?_
          refine w_guard_no rfl 27 rfl rfl rfl rfl rfl ?_
          refine w_guard_no rfl 27 rfl rfl rfl rfl rfl ?_
          refine w_guard_no rfl 27 rfl rfl rfl rfl rfl ?_
          refine w_guard_no rfl 27 rfl rfl rfl rfl rfl ?_
          refine w_guard_no rfl 27 rfl rfl rfl rfl rfl ?_
          refine w_guard_no rfl 27 rfl rfl rfl rfl rfl ?_
          refine w_guard_no rfl 27 rfl rfl rfl rfl rfl ?_
          refine w_guard_no rfl 27 rfl rfl rfl rfl rfl ?_
          refine w_guard_no rfl 27 rfl rfl rfl rfl rfl ?_
          refine w_guard_no rfl 27 rfl rfl rfl rfl rfl ?_
          refine w_unguard 24 rfl rfl ?_
          refine w_pure (p_pick_true (u := .bool true) rfl rfl) rfl rfl rfl ?_
          exact w_sub (Sub.cons rfl (Sub.skip rfl (Sub.skip rfl (Sub.skip rfl (Sub.skip rfl (Sub.skip rfl (Sub.skip rfl (Sub.skip rfl (Sub.skip rfl (Sub.skip rfl (Sub.skip rfl (Sub.skip rfl (Sub.skip rfl (Sub.skip rfl (Sub.skip rfl (Sub.skip rfl (Sub.refl _))))))))))))))))) hk
        refine w_pure (p_pick_true (u := .bool (decide (best < 0) || decide ((Shd.score (l.getD best.toNat default) (Hash.raw key)) < (Shd.score (l.getD i default) (Hash.raw key))))) rfl rfl) rfl rfl rfl ?_
        exact w_sub (Sub.cons rfl (Sub.skip rfl (Sub.skip rfl (Sub.skip rfl (Sub.skip rfl (Sub.skip rfl (Sub.refl _))))))) hk
      · intro hb6 hk
        refine w_guard_no rfl 24 rfl rfl rfl rfl rfl ?_
        refine w_guard_no rfl 24 rfl rfl rfl rfl rfl ?_
        refine w_guard_no rfl 24 rfl rfl rfl rfl rfl ?_
        refine w_guard_no rfl 27 rfl rfl rfl rfl rfl ?_
        refine w_guard_no rfl 27 rfl rfl rfl rfl rfl ?_
        refine w_guard_no rfl 27 rfl rfl rfl rfl rfl ?_
        refine w_guard_no rfl 27 rfl rfl rfl rfl rfl ?_
        refine w_guard_no rfl 27 rfl rfl rfl rfl rfl ?_
        refine w_guard_no rfl 27 rfl rfl rfl rfl rfl ?_
        refine w_guard_no rfl 27 rfl rfl rfl rfl rfl ?_
        refine w_guard_no rfl 27 rfl rfl rfl rfl rfl ?_
        refine w_guard_no rfl 27 rfl rfl rfl rfl rfl ?_
        refine w_guard_no rfl 27 rfl rfl rfl rfl rfl ?_
        refine w_guard_no rfl 27 rfl rfl rfl rfl rfl ?_
        refine w_guard_no rfl 27 rfl rfl rfl rfl rfl ?_
        refine w_guard_no rfl 27 rfl rfl rfl rfl rfl ?_
        refine w_guard_no rfl 24 rfl rfl rfl rfl rfl ?_
        refine w_pure (p_pick_false (v := .bool false) rfl rfl) rfl rfl rfl ?_
        exact w_sub (Sub.cons rfl (Sub.skip rfl (Sub.skip rfl (Sub.skip rfl (Sub.skip rfl (Sub.skip rfl (Sub.skip rfl (Sub.skip rfl (Sub.skip rfl (Sub.skip rfl (Sub.skip rfl (Sub.skip rfl (Sub.skip rfl (Sub.skip rfl (Sub.skip rfl (Sub.skip rfl (Sub.skip rfl (Sub.skip rfl (Sub.skip rfl (Sub.skip rfl (Sub.refl _))))))))))))))))))))) hk
      refine w_nil ?_
      refine q_then ?_
      refine c_cond (b := ((!(Ref.hasInt out (i : Int))) && (decide (best < 0) || decide ((Shd.score (l.getD best.toNat default) (Hash.raw key)) < (Shd.score (l.getD i default) (Hash.raw key)))))) rfl (fun hc8 => ?_) (fun hc8 => ?_)
      · simp only [Bool.and_eq_true, Bool.not_eq_true', Bool.or_eq_true, decide_eq_true_eq] at hc8
        have hpk := hc8
        refine c_region ?_
        refine o_pure (p_move (v := .int .i64 (i : Int)) rfl) rfl rfl rfl ?_
        refine o_pure (p_assign (v := .int .i64 (i : Int)) rfl) rfl rfl rfl ?_
        refine o_nil ?_
        refine q_block_normal (q_then ?_)
        refine c_region ?_
        refine o_pure (p_move (v := .int .i64 (i : Int)) rfl) rfl rfl rfl ?_
        refine o_pure (p_addb (p := (i : Int)) (q := 1) rfl rfl (by omega)) rfl rfl rfl ?_
        refine o_pure (p_assign (v := .int .i64 ((i : Int) + 1)) rfl) rfl rfl rfl ?_
        refine o_nil ?_
        refine q_round hK4 ((i : Int), i + 1) ?_ ?_ ?_ ?_
        · clear hK4
          first | exact hI.take_ (by omega) hpk.1 hpk.2 | exact hI.skip (by omega) (Shd.skip_of hpk)
        · (try dsimp only); omega
        · exact Sub.cons rfl (Sub.cons rfl (Sub.cons rfl (Sub.cons rfl (Sub.cons rfl (Sub.cons rfl (Sub.nil _))))))
        · exact fun _ hw => HeapIs.pick hw [0, 1] (by decide) rfl
      · simp only [Bool.and_eq_false_iff, Bool.not_eq_false', Bool.or_eq_false_iff, decide_eq_false_iff_not, Int.not_lt] at hc8
        have hpk := hc8
        refine c_skip ?_
        refine q_block_normal (q_then ?_)
        refine c_region ?_
        refine o_pure (p_move (v := .int .i64 (i : Int)) rfl) rfl rfl rfl ?_
        refine o_pure (p_addb (p := (i : Int)) (q := 1) rfl rfl (by omega)) rfl rfl rfl ?_
        refine o_pure (p_assign (v := .int .i64 ((i : Int) + 1)) rfl) rfl rfl rfl ?_
        refine o_nil ?_
        refine q_round hK4 (best, i + 1) ?_ ?_ ?_ ?_
        · clear hK4
          first | exact hI.take_ (by omega) hpk.1 hpk.2 | exact hI.skip (by omega) (Shd.skip_of hpk)
        · (try dsimp only); omega
        · exact Sub.cons rfl (Sub.cons rfl (Sub.cons rfl (Sub.cons rfl (Sub.cons rfl (Sub.cons rfl (Sub.nil _))))))
        · exact fun _ hw => HeapIs.pick hw [0, 1] (by decide) rfl
    · simp only [decide_eq_false_iff_not, Int.not_lt] at hc5
      have hP := hI
      refine c_exit ?_
      refine q_then_exit (q_then_exit (q_block_exit (q_then ?_)))
      refine c_region ?_
      refine o_pure (p_move (v := .slice aout out.length cout) rfl) rfl rfl rfl ?_
      refine o_pure (p_move (v := .int .i64 best) rfl) rfl rfl rfl ?_
      refine o_buildSlice (m := 1) (T := tInt) (L := [best]) (vs := [.int .i64 best]) rfl rfl rfl rfl Try.underlying45 sz3 (by decide) ze3 rfl (by decide) rfl (fun S9 a10 => ?_)
      refine o_append (i := 1) (L := out) (M := [best]) (T := tInt) rfl rfl rfl (rd_own (i := 0) rfl) Try.underlying45 Try.underlying45 (by intro k h; cases h) el3 (by intro z; simp [tInt, one1]) (by decide) (by first | omega | (simp only [List.length_cons, List.length_nil]; omega) | (simp only [List.length_append, List.length_cons, List.length_nil, List.length_take, List.length_drop]; omega)) rfl (fun a12 c13 S14 => ?_)
      refine o_pure (p_assign (v := .slice a12 (out ++ [best]).length c13) rfl) rfl rfl rfl ?_
      refine o_nil ?_
      refine q_block_normal ?_
      refine q_round hK2 ((out ++ [best]), a12, c13, S14) ?_ ?_ ?_ ?_
      · clear hK2
        exact hS.next (by omega) (by omega) hP (by omega)
      · (try dsimp only); simp only [List.length_append, List.length_cons, List.length_nil]; omega
      · exact Sub.cons rfl (Sub.cons rfl (Sub.cons rfl (Sub.cons rfl (Sub.nil _))))
      · exact fun _ hw => HeapIs.pick hw [1, 2] (by decide) rfl
  · simp only [decide_eq_false_iff_not, Int.not_lt] at hc3
    refine c_exit ?_
    refine q_then_exit (q_then_exit (q_block_exit (q_then ?_)))
    refine c_seq ?_
    refine c_region ?_
    refine o_pure (p_move (v := .slice aout out.length cout) rfl) rfl rfl rfl ?_
    refine o_pure (p_assign (v := .slice aout out.length cout) rfl) rfl rfl rfl ?_
    refine o_nil ?_
    refine q_then ?_
    refine c_ret ?_
    have hr0 : (out : List Int) = ((Shd.ranked l key).take many.toNat) := by
      exact hI.done (by omega)
    refine q_endM (p := (aout, cout)) Sout (rt1 rfl (r_tmp rfl)) (i := 1) rfl ?_ ?_ ?_
    · exact (by have hcc := congrArg (fun (y0 : List Int) => (.slice aout y0.length cout : Value)) hr0; exact hcc)
    · exact fun w hw => hw.above (i := 1) (j := 0) (by decide) rfl rfl
    · intro w hw; exact Eq.mp (congrArg (fun y => SlO tInt _ w aout cout y) hr0) ((hw.at (i := 0) rfl).here)
end Go.Proofs.Ythecfjipaepcgaa
