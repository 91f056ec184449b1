/- The walks, printed by a program from the translation and a specification. -/
import Derived.Test.YthbfdhphnofacaaHaF
import Derived.Test.YthbfdhphnofacaaHaPure
namespace Go.Proofs.Ythbfdhphnofacaa
open Go.Sx Go.RowKit
set_option maxHeartbeats 8000000 in
set_option maxRecDepth 100000 in
theorem half_ok (n : UInt64) (many : Int) (hy1 : 0 ≤ many ∧ many ≤ 64) : Fn0 Try.prog 47 [.int .u64 (n.toNat : Int), .int .i64 many] (fun _ => True) (.int .u64 ((shrU n many.toNat).toNat : Int)) := by
  refine fn0 (nt := 14) (F0 := [(0, .int .u64 (n.toNat : Int)), (1, .int .i64 many)]) Try.func47 rfl Try.ntmps47 rfl rfl (fun w0 hpre => ?_)
  refine c_seq ?_
  refine c_region ?_
  refine o_pure (p_assign (v := .int .u64 ((0 : UInt64).toNat : Int)) rfl) rfl rfl rfl ?_
  refine o_nil ?_
  refine q_then ?_
  refine c_seq ?_
  refine c_seq ?_
  refine c_region ?_
  refine o_pure (p_assign (v := .int .i64 0) rfl) rfl rfl rfl ?_
  refine o_nil ?_
  refine q_then ?_
  refine c_block ?_
  refine c_loop (St := UInt64 × Nat)
    (fun ⟨m, i⟩ => [(0, .int .u64 (m.toNat : Int)), (1, .int .i64 many), (5, .int .i64 (i : Int))])
    (fun ⟨m, i⟩ => [base w0])
    (fun ⟨m, i⟩ => i ≤ many.toNat ∧ m = shrU n i)
    (fun ⟨m, i⟩ => many.toNat - i)
    (n, 0) ?_ (Sub.cons rfl (Sub.cons rfl (Sub.cons rfl (Sub.nil _)))) (fun _ hw => hw) ?_
  · exact ⟨Nat.zero_le _, (Hash.shrU_zero n).symm⟩
  rintro ⟨m, i⟩ hI K hK1
  obtain ⟨hk, ho⟩ := hI
  show SC Try.prog 14 w0 _ _ [(0, .int .u64 (m.toNat : Int)), (1, .int .i64 many), (5, .int .i64 (i : Int))] [base w0]
  refine c_seq ?_
  refine c_seq ?_
  refine c_region ?_
  refine o_pure (p_move (v := .int .i64 (i : Int)) rfl) rfl rfl rfl ?_
  refine o_pure (p_move (v := .int .i64 many) rfl) rfl rfl rfl ?_
  refine o_pure (p_lt (p := (i : Int)) (q := many) rfl rfl) rfl rfl rfl ?_
  refine o_nil ?_
  refine q_then ?_
  refine c_cond (b := decide ((i : Int) < many)) rfl (fun hc2 => ?_) (fun hc2 => ?_)
  · simp only [decide_eq_true_eq] at hc2
    refine c_skip ?_
    refine q_then ?_
    refine c_seq ?_
    refine c_block ?_
    refine c_region ?_
    refine o_pure (p_move (v := .int .u64 (m.toNat : Int)) rfl) rfl rfl rfl ?_
    refine o_pure (pu_quo (p := m) (q := (2 : UInt64)) rfl rfl (by first | decide | assumption)) rfl rfl rfl ?_
    refine o_pure (p_assign (v := .int .u64 ((m / (2 : UInt64)).toNat : Int)) rfl) rfl rfl rfl ?_
    refine o_nil ?_
    refine q_block_normal (q_then ?_)
    refine c_region ?_
    refine o_pure (p_move (v := .int .i64 (i : Int)) rfl) rfl rfl rfl ?_
    refine o_pure (p_addb (p := (i : Int)) (q := 1) rfl rfl (by omega)) rfl rfl rfl ?_
    refine o_pure (p_assign (v := .int .i64 ((i : Int) + 1)) rfl) rfl rfl rfl ?_
    refine o_nil ?_
    refine q_round hK1 ((m / (2 : UInt64)), i + 1) ?_ ?_ ?_ ?_
    · clear hK1
      exact ⟨by omega, by rw [ho]; exact Hash.half_step n i⟩
    · (try dsimp only); omega
    · exact Sub.cons rfl (Sub.cons rfl (Sub.cons rfl (Sub.nil _)))
    · exact fun _ hw => HeapIs.drop hw (List.Sublist.refl _)
  · simp only [decide_eq_false_iff_not, Int.not_lt] at hc2
    refine c_exit ?_
    refine q_then_exit (q_then_exit (q_block_exit (q_then ?_)))
    refine c_seq ?_
    refine c_region ?_
    refine o_pure (p_move (v := .int .u64 (m.toNat : Int)) rfl) rfl rfl rfl ?_
    refine o_pure (p_assign (v := .int .u64 (m.toNat : Int)) rfl) rfl rfl rfl ?_
    refine o_nil ?_
    refine q_then ?_
    refine c_ret ?_
    refine q_end0 (v := .int .u64 (m.toNat : Int)) (rt1 rfl (r_tmp rfl)) (i := 0) rfl ?_
    rw [show m = shrU n many.toNat by rw [ho]; congr 1; omega]

set_option maxHeartbeats 8000000 in
set_option maxRecDepth 100000 in
theorem times_ok (a : UInt64) (b : UInt64) : Fn0 Try.prog 46 [.int .u64 (a.toNat : Int), .int .u64 (b.toNat : Int)] (fun _ => True) (.int .u64 ((a * b).toNat : Int)) := by
  refine fn0 (nt := 20) (F0 := [(0, .int .u64 (a.toNat : Int)), (1, .int .u64 (b.toNat : Int))]) Try.func46 rfl Try.ntmps46 rfl rfl (fun w0 hpre => ?_)
  refine c_seq ?_
  refine c_region ?_
  refine o_pure (p_assign (v := .int .u64 ((0 : UInt64).toNat : Int)) rfl) rfl rfl rfl ?_
  refine o_nil ?_
  refine q_then ?_
  refine c_seq ?_
  refine c_region ?_
  refine o_pure (p_assign (v := .int .u64 ((0 : UInt64).toNat : Int)) rfl) rfl rfl rfl ?_
  refine o_nil ?_
  refine q_then ?_
  refine c_seq ?_
  refine c_block ?_
  refine c_loop (St := UInt64 × UInt64 × UInt64)
    (fun ⟨a1, b1, sm⟩ => [(0, .int .u64 (a1.toNat : Int)), (1, .int .u64 (b1.toNat : Int)), (5, .int .u64 (sm.toNat : Int))])
    (fun ⟨a1, b1, sm⟩ => [base w0])
    (fun ⟨a1, b1, sm⟩ => sm + a1 * b1 = a * b)
    (fun ⟨a1, b1, sm⟩ => b1.toNat)
    (a, b, (0 : UInt64)) ?_ (Sub.cons rfl (Sub.cons rfl (Sub.cons rfl (Sub.nil _)))) (fun _ hw => hw) ?_
  · simp
  rintro ⟨a1, b1, sm⟩ hI K hK1
  show SC Try.prog 20 w0 _ _ [(0, .int .u64 (a1.toNat : Int)), (1, .int .u64 (b1.toNat : Int)), (5, .int .u64 (sm.toNat : Int))] [base w0]
  refine c_seq ?_
  refine c_seq ?_
  refine c_region ?_
  refine o_pure (p_move (v := .int .u64 (b1.toNat : Int)) rfl) rfl rfl rfl ?_
  refine o_pure (pu_gt (p := b1) (q := (0 : UInt64)) rfl rfl) rfl rfl rfl ?_
  refine o_nil ?_
  refine q_then ?_
  refine c_cond (b := decide ((0 : UInt64) < b1)) rfl (fun hc2 => ?_) (fun hc2 => ?_)
  · simp only [decide_eq_true_eq] at hc2
    refine c_skip ?_
    refine q_then ?_
    refine c_block ?_
    refine c_seq ?_
    refine c_seq ?_
    refine c_region ?_
    refine o_pure (p_move (v := .int .u64 (b1.toNat : Int)) rfl) rfl rfl rfl ?_
    refine o_pure (pu_rem (p := b1) (q := (2 : UInt64)) rfl rfl (by first | decide | assumption)) rfl rfl rfl ?_
    refine o_pure (pu_eq (p := (b1 % (2 : UInt64))) (q := (1 : UInt64)) rfl rfl) rfl rfl rfl ?_
    refine o_nil ?_
    refine q_then ?_
    refine c_cond (b := ((b1 % (2 : UInt64)) == (1 : UInt64))) rfl (fun hc3 => ?_) (fun hc3 => ?_)
    · simp only [beq_iff_eq] at hc3
      refine c_region ?_
      refine o_pure (p_move (v := .int .u64 (sm.toNat : Int)) rfl) rfl rfl rfl ?_
      refine o_pure (p_move (v := .int .u64 (a1.toNat : Int)) rfl) rfl rfl rfl ?_
      refine o_pure (pu_add (p := sm) (q := a1) rfl rfl) rfl rfl rfl ?_
      refine o_pure (p_assign (v := .int .u64 ((sm + a1).toNat : Int)) rfl) rfl rfl rfl ?_
      refine o_nil ?_
      refine q_then ?_
      refine c_seq ?_
      refine c_region ?_
      refine o_pure (p_move (v := .int .u64 (a1.toNat : Int)) rfl) rfl rfl rfl ?_
      refine o_pure (p_move (v := .int .u64 (a1.toNat : Int)) rfl) rfl rfl rfl ?_
      refine o_pure (pu_add (p := a1) (q := a1) rfl rfl) rfl rfl rfl ?_
      refine o_pure (p_assign (v := .int .u64 ((a1 + a1).toNat : Int)) rfl) rfl rfl rfl ?_
      refine o_nil ?_
      refine q_then ?_
      refine c_region ?_
      refine o_pure (p_move (v := .int .u64 (b1.toNat : Int)) rfl) rfl rfl rfl ?_
      refine o_pure (pu_quo (p := b1) (q := (2 : UInt64)) rfl rfl (by first | decide | assumption)) rfl rfl rfl ?_
      refine o_pure (p_assign (v := .int .u64 ((b1 / (2 : UInt64)).toNat : Int)) rfl) rfl rfl rfl ?_
      refine o_nil ?_
      refine q_block_normal ?_
      refine q_round hK1 ((a1 + a1), (b1 / (2 : UInt64)), (sm + a1)) ?_ ?_ ?_ ?_
      · clear hK1
        first | exact Hash.times_odd hI (by assumption) | exact Hash.times_even hI (by assumption)
      · exact Hash.half_less (by assumption)
      · exact Sub.cons rfl (Sub.cons rfl (Sub.cons rfl (Sub.nil _)))
      · exact fun _ hw => HeapIs.drop hw (List.Sublist.refl _)
    · simp only [beq_eq_false_iff_ne, ne_eq] at hc3
      refine c_skip ?_
      refine q_then ?_
      refine c_seq ?_
      refine c_region ?_
      refine o_pure (p_move (v := .int .u64 (a1.toNat : Int)) rfl) rfl rfl rfl ?_
      refine o_pure (p_move (v := .int .u64 (a1.toNat : Int)) rfl) rfl rfl rfl ?_
      refine o_pure (pu_add (p := a1) (q := a1) rfl rfl) rfl rfl rfl ?_
      refine o_pure (p_assign (v := .int .u64 ((a1 + a1).toNat : Int)) rfl) rfl rfl rfl ?_
      refine o_nil ?_
      refine q_then ?_
      refine c_region ?_
      refine o_pure (p_move (v := .int .u64 (b1.toNat : Int)) rfl) rfl rfl rfl ?_
      refine o_pure (pu_quo (p := b1) (q := (2 : UInt64)) rfl rfl (by first | decide | assumption)) rfl rfl rfl ?_
      refine o_pure (p_assign (v := .int .u64 ((b1 / (2 : UInt64)).toNat : Int)) rfl) rfl rfl rfl ?_
      refine o_nil ?_
      refine q_block_normal ?_
      refine q_round hK1 ((a1 + a1), (b1 / (2 : UInt64)), sm) ?_ ?_ ?_ ?_
      · clear hK1
        first | exact Hash.times_odd hI (by assumption) | exact Hash.times_even hI (by assumption)
      · exact Hash.half_less (by assumption)
      · exact Sub.cons rfl (Sub.cons rfl (Sub.cons rfl (Sub.nil _)))
      · exact fun _ hw => HeapIs.drop hw (List.Sublist.refl _)
  · simp only [decide_eq_false_iff_not, Int.not_lt] at hc2
    refine c_exit ?_
    refine q_then_exit (q_then_exit (q_block_exit (q_then ?_)))
    refine c_seq ?_
    refine c_region ?_
    refine o_pure (p_move (v := .int .u64 (sm.toNat : Int)) rfl) rfl rfl rfl ?_
    refine o_pure (p_assign (v := .int .u64 (sm.toNat : Int)) rfl) rfl rfl rfl ?_
    refine o_nil ?_
    refine q_then ?_
    refine c_ret ?_
    refine q_end0 (v := .int .u64 (sm.toNat : Int)) (rt1 rfl (r_tmp rfl)) (i := 0) rfl ?_
    rw [Hash.times_end hI (by assumption)]

set_option maxHeartbeats 8000000 in
set_option maxRecDepth 100000 in
theorem mixSum_ok (s : ByteArray) : Fn0 Try.prog 21 [.string s] (fun w => s.size ≤ 9223372036854775807) (.int .u64 ((Hash.raw s).toNat : Int)) := by
  refine fn0 (nt := 19) (F0 := [(0, .string s)]) Try.func21 rfl Try.ntmps21 rfl rfl (fun w0 hpre => ?_)
  have hs := hpre
  refine c_seq ?_
  refine c_region ?_
  refine o_pure (p_assign (v := .int .u64 ((0 : UInt64).toNat : Int)) rfl) rfl rfl rfl ?_
  refine o_nil ?_
  refine q_then ?_
  refine c_seq ?_
  refine c_region ?_
  refine o_pure (p_assign (v := .int .u64 ((14695981039346656037 : UInt64).toNat : Int)) rfl) rfl rfl rfl ?_
  refine o_nil ?_
  refine q_then ?_
  refine c_seq ?_
  refine c_seq ?_
  refine c_region ?_
  refine o_pure (p_assign (v := .int .i64 0) rfl) rfl rfl rfl ?_
  refine o_nil ?_
  refine q_then ?_
  refine c_block ?_
  refine c_loop (St := UInt64 × Nat)
    (fun ⟨n, i⟩ => [(0, .string s), (3, .int .u64 (n.toNat : Int)), (4, .int .i64 (i : Int))])
    (fun ⟨n, i⟩ => [base w0])
    (fun ⟨n, i⟩ => i ≤ s.size ∧ n = Hash.rawTo s i)
    (fun ⟨n, i⟩ => s.size - i)
    ((14695981039346656037 : UInt64), 0) ?_ (Sub.cons rfl (Sub.cons rfl (Sub.cons rfl (Sub.nil _)))) (fun _ hw => hw) ?_
  · exact ⟨Nat.zero_le _, rfl⟩
  rintro ⟨n, i⟩ hI K hK1
  obtain ⟨hk, ho⟩ := hI
  show SC Try.prog 19 w0 _ _ [(0, .string s), (3, .int .u64 (n.toNat : Int)), (4, .int .i64 (i : Int))] [base w0]
  refine c_seq ?_
  refine c_seq ?_
  refine c_region ?_
  refine o_pure (p_move (v := .int .i64 (i : Int)) rfl) rfl rfl rfl ?_
  refine o_pure (p_move (v := .string s) rfl) rfl rfl rfl ?_
  refine o_pure (p_len_string rfl rfl Try.underlying9) rfl rfl rfl ?_
  refine o_pure (p_lt (p := (i : Int)) (q := (s.size : Int)) rfl rfl) rfl rfl rfl ?_
  refine o_nil ?_
  refine q_then ?_
  refine c_cond (b := decide ((i : Int) < (s.size : Int))) rfl (fun hc2 => ?_) (fun hc2 => ?_)
  · simp only [decide_eq_true_eq] at hc2
    refine c_skip ?_
    refine q_then ?_
    refine c_seq ?_
    refine c_block ?_
    refine c_region ?_
    refine o_pure (p_move (v := .int .u64 (n.toNat : Int)) rfl) rfl rfl rfl ?_
    refine o_pure (p_move (v := .string s) rfl) rfl rfl rfl ?_
    refine o_pure (p_move (v := .int .i64 (i : Int)) rfl) rfl rfl rfl ?_
    refine o_pure (p_indexStr (z := (i : Int)) (i := i) rfl rfl Try.underlying9 (by omega) (by omega)) rfl rfl rfl ?_
    refine o_pure (pu_convB (c := (byteAt s i)) rfl Try.underlying5 Try.underlying22) rfl rfl rfl ?_
    refine o_pure (pu_xor (p := n) (q := (byteAt s i).toUInt64) rfl rfl) rfl rfl rfl ?_
    refine o_call0 (v := .int .u64 (((n ^^^ (byteAt s i).toUInt64) * (1099511628211 : UInt64)).toNat : Int)) rfl (times_ok (n ^^^ (byteAt s i).toUInt64) (1099511628211 : UInt64)) hf46 (fun _ _ => trivial) rfl ?_
    refine o_pure (p_assign (v := .int .u64 (((n ^^^ (byteAt s i).toUInt64) * (1099511628211 : UInt64)).toNat : Int)) rfl) rfl rfl rfl ?_
    refine o_nil ?_
    refine q_block_normal (q_then ?_)
    refine c_region ?_
    refine o_pure (p_move (v := .int .i64 (i : Int)) rfl) rfl rfl rfl ?_
    refine o_pure (p_addb (p := (i : Int)) (q := 1) rfl rfl (by omega)) rfl rfl rfl ?_
    refine o_pure (p_assign (v := .int .i64 ((i : Int) + 1)) rfl) rfl rfl rfl ?_
    refine o_nil ?_
    refine q_round hK1 (((n ^^^ (byteAt s i).toUInt64) * (1099511628211 : UInt64)), i + 1) ?_ ?_ ?_ ?_
    · clear hK1
      exact ⟨by omega, by rw [ho]; rfl⟩
    · (try dsimp only); omega
    · exact Sub.cons rfl (Sub.cons rfl (Sub.cons rfl (Sub.nil _)))
    · exact fun _ hw => HeapIs.drop hw (List.Sublist.refl _)
  · simp only [decide_eq_false_iff_not, Int.not_lt] at hc2
    refine c_exit ?_
    refine q_then_exit (q_then_exit (q_block_exit (q_then ?_)))
    refine c_seq ?_
    refine c_region ?_
    refine o_pure (p_move (v := .int .u64 (n.toNat : Int)) rfl) rfl rfl rfl ?_
    refine o_pure (p_assign (v := .int .u64 (n.toNat : Int)) rfl) rfl rfl rfl ?_
    refine o_nil ?_
    refine q_then ?_
    refine c_ret ?_
    refine q_end0 (v := .int .u64 (n.toNat : Int)) (rt1 rfl (r_tmp rfl)) (i := 0) rfl ?_
    rw [show n = Hash.raw s by unfold Hash.raw; rw [ho]; congr 1; omega]

set_option maxHeartbeats 8000000 in
set_option maxRecDepth 100000 in
theorem mixOf_ok (n : UInt64) : Fn0 Try.prog 22 [.int .u64 (n.toNat : Int)] (fun _ => True) (.int .u64 ((Hash.mix n).toNat : Int)) := by
  refine fn0 (nt := 17) (F0 := [(0, .int .u64 (n.toNat : Int))]) Try.func22 rfl Try.ntmps22 rfl rfl (fun w0 hpre => ?_)
  refine c_seq ?_
  refine c_region ?_
  refine o_pure (p_assign (v := .int .u64 ((0 : UInt64).toNat : Int)) rfl) rfl rfl rfl ?_
  refine o_nil ?_
  refine q_then ?_
  refine c_seq ?_
  refine c_region ?_
  refine o_pure (p_move (v := .int .u64 (n.toNat : Int)) rfl) rfl rfl rfl ?_
  refine o_pure (p_move (v := .int .u64 (n.toNat : Int)) rfl) rfl rfl rfl ?_
  refine o_call0 (v := .int .u64 ((shrU n (30 : Int).toNat).toNat : Int)) rfl (half_ok n 30 (by first | assumption | omega | decide)) hf47 (fun _ _ => trivial) rfl ?_
  refine o_pure (pu_xor (p := n) (q := (shrU n (30 : Int).toNat)) rfl rfl) rfl rfl rfl ?_
  refine o_call0 (v := .int .u64 (((n ^^^ (shrU n (30 : Int).toNat)) * (13787848793156543929 : UInt64)).toNat : Int)) rfl (times_ok (n ^^^ (shrU n (30 : Int).toNat)) (13787848793156543929 : UInt64)) hf46 (fun _ _ => trivial) rfl ?_
  refine o_pure (p_assign (v := .int .u64 (((n ^^^ (shrU n (30 : Int).toNat)) * (13787848793156543929 : UInt64)).toNat : Int)) rfl) rfl rfl rfl ?_
  refine o_nil ?_
  refine q_then ?_
  refine c_seq ?_
  refine c_region ?_
  refine o_pure (p_move (v := .int .u64 (((n ^^^ (shrU n (30 : Int).toNat)) * (13787848793156543929 : UInt64)).toNat : Int)) rfl) rfl rfl rfl ?_
  refine o_pure (p_move (v := .int .u64 (((n ^^^ (shrU n (30 : Int).toNat)) * (13787848793156543929 : UInt64)).toNat : Int)) rfl) rfl rfl rfl ?_
  refine o_call0 (v := .int .u64 ((shrU ((n ^^^ (shrU n (30 : Int).toNat)) * (13787848793156543929 : UInt64)) (27 : Int).toNat).toNat : Int)) rfl (half_ok ((n ^^^ (shrU n (30 : Int).toNat)) * (13787848793156543929 : UInt64)) 27 (by first | assumption | omega | decide)) hf47 (fun _ _ => trivial) rfl ?_
  refine o_pure (pu_xor (p := ((n ^^^ (shrU n (30 : Int).toNat)) * (13787848793156543929 : UInt64))) (q := (shrU ((n ^^^ (shrU n (30 : Int).toNat)) * (13787848793156543929 : UInt64)) (27 : Int).toNat)) rfl rfl) rfl rfl rfl ?_
  refine o_call0 (v := .int .u64 (((((n ^^^ (shrU n (30 : Int).toNat)) * (13787848793156543929 : UInt64)) ^^^ (shrU ((n ^^^ (shrU n (30 : Int).toNat)) * (13787848793156543929 : UInt64)) (27 : Int).toNat)) * (10723151780598845931 : UInt64)).toNat : Int)) rfl (times_ok (((n ^^^ (shrU n (30 : Int).toNat)) * (13787848793156543929 : UInt64)) ^^^ (shrU ((n ^^^ (shrU n (30 : Int).toNat)) * (13787848793156543929 : UInt64)) (27 : Int).toNat)) (10723151780598845931 : UInt64)) hf46 (fun _ _ => trivial) rfl ?_
  refine o_pure (p_assign (v := .int .u64 (((((n ^^^ (shrU n (30 : Int).toNat)) * (13787848793156543929 : UInt64)) ^^^ (shrU ((n ^^^ (shrU n (30 : Int).toNat)) * (13787848793156543929 : UInt64)) (27 : Int).toNat)) * (10723151780598845931 : UInt64)).toNat : Int)) rfl) rfl rfl rfl ?_
  refine o_nil ?_
  refine q_then ?_
  refine c_seq ?_
  refine c_region ?_
  refine o_pure (p_move (v := .int .u64 (((((n ^^^ (shrU n (30 : Int).toNat)) * (13787848793156543929 : UInt64)) ^^^ (shrU ((n ^^^ (shrU n (30 : Int).toNat)) * (13787848793156543929 : UInt64)) (27 : Int).toNat)) * (10723151780598845931 : UInt64)).toNat : Int)) rfl) rfl rfl rfl ?_
  refine o_pure (p_move (v := .int .u64 (((((n ^^^ (shrU n (30 : Int).toNat)) * (13787848793156543929 : UInt64)) ^^^ (shrU ((n ^^^ (shrU n (30 : Int).toNat)) * (13787848793156543929 : UInt64)) (27 : Int).toNat)) * (10723151780598845931 : UInt64)).toNat : Int)) rfl) rfl rfl rfl ?_
  refine o_call0 (v := .int .u64 ((shrU ((((n ^^^ (shrU n (30 : Int).toNat)) * (13787848793156543929 : UInt64)) ^^^ (shrU ((n ^^^ (shrU n (30 : Int).toNat)) * (13787848793156543929 : UInt64)) (27 : Int).toNat)) * (10723151780598845931 : UInt64)) (31 : Int).toNat).toNat : Int)) rfl (half_ok ((((n ^^^ (shrU n (30 : Int).toNat)) * (13787848793156543929 : UInt64)) ^^^ (shrU ((n ^^^ (shrU n (30 : Int).toNat)) * (13787848793156543929 : UInt64)) (27 : Int).toNat)) * (10723151780598845931 : UInt64)) 31 (by first | assumption | omega | decide)) hf47 (fun _ _ => trivial) rfl ?_
  refine o_pure (pu_xor (p := ((((n ^^^ (shrU n (30 : Int).toNat)) * (13787848793156543929 : UInt64)) ^^^ (shrU ((n ^^^ (shrU n (30 : Int).toNat)) * (13787848793156543929 : UInt64)) (27 : Int).toNat)) * (10723151780598845931 : UInt64))) (q := (shrU ((((n ^^^ (shrU n (30 : Int).toNat)) * (13787848793156543929 : UInt64)) ^^^ (shrU ((n ^^^ (shrU n (30 : Int).toNat)) * (13787848793156543929 : UInt64)) (27 : Int).toNat)) * (10723151780598845931 : UInt64)) (31 : Int).toNat)) rfl rfl) rfl rfl rfl ?_
  refine o_pure (p_assign (v := .int .u64 ((((((n ^^^ (shrU n (30 : Int).toNat)) * (13787848793156543929 : UInt64)) ^^^ (shrU ((n ^^^ (shrU n (30 : Int).toNat)) * (13787848793156543929 : UInt64)) (27 : Int).toNat)) * (10723151780598845931 : UInt64)) ^^^ (shrU ((((n ^^^ (shrU n (30 : Int).toNat)) * (13787848793156543929 : UInt64)) ^^^ (shrU ((n ^^^ (shrU n (30 : Int).toNat)) * (13787848793156543929 : UInt64)) (27 : Int).toNat)) * (10723151780598845931 : UInt64)) (31 : Int).toNat)).toNat : Int)) rfl) rfl rfl rfl ?_
  refine o_nil ?_
  refine q_then ?_
  refine c_ret ?_
  refine q_end0 (v := .int .u64 ((((((n ^^^ (shrU n (30 : Int).toNat)) * (13787848793156543929 : UInt64)) ^^^ (shrU ((n ^^^ (shrU n (30 : Int).toNat)) * (13787848793156543929 : UInt64)) (27 : Int).toNat)) * (10723151780598845931 : UInt64)) ^^^ (shrU ((((n ^^^ (shrU n (30 : Int).toNat)) * (13787848793156543929 : UInt64)) ^^^ (shrU ((n ^^^ (shrU n (30 : Int).toNat)) * (13787848793156543929 : UInt64)) (27 : Int).toNat)) * (10723151780598845931 : UInt64)) (31 : Int).toNat)).toNat : Int)) (rt1 rfl (r_tmp rfl)) (i := 0) rfl ?_
  rfl

set_option maxHeartbeats 8000000 in
set_option maxRecDepth 100000 in
theorem mixFold_ok (n : UInt64) (most : Int) : Fn0 Try.prog 23 [.int .u64 (n.toNat : Int), .int .i64 most] (fun _ => True) (.int .i64 (Hash.rawFold n most)) := by
  refine fn0 (nt := 14) (F0 := [(0, .int .u64 (n.toNat : Int)), (1, .int .i64 most)]) Try.func23 rfl Try.ntmps23 rfl rfl (fun w0 hpre => ?_)
  refine c_seq ?_
  refine c_region ?_
  refine o_pure (p_assign (v := .int .i64 0) rfl) rfl rfl rfl ?_
  refine o_nil ?_
  refine q_then ?_
  refine c_seq ?_
  refine c_region ?_
  refine o_pure (p_move (v := .int .u64 (n.toNat : Int)) rfl) rfl rfl rfl ?_
  refine o_call0 (v := .int .u64 ((shrU n (32 : Int).toNat).toNat : Int)) rfl (half_ok n 32 (by first | assumption | omega | decide)) hf47 (fun _ _ => trivial) rfl ?_
  refine o_pure (p_assign (v := .int .u64 ((shrU n (32 : Int).toNat).toNat : Int)) rfl) rfl rfl rfl ?_
  refine o_nil ?_
  refine q_then ?_
  refine c_seq ?_
  refine c_region ?_
  refine o_pure (p_move (v := .int .u64 ((shrU n (32 : Int).toNat).toNat : Int)) rfl) rfl rfl rfl ?_
  refine o_pure (p_move (v := .int .i64 most) rfl) rfl rfl rfl ?_
  refine o_pure (pu_conv (z := most) rfl Try.underlying3 Try.underlying22) rfl rfl rfl ?_
  refine o_call0 (v := .int .u64 (((shrU n (32 : Int).toNat) * (toU most)).toNat : Int)) rfl (times_ok (shrU n (32 : Int).toNat) (toU most)) hf46 (fun _ _ => trivial) rfl ?_
  refine o_call0 (v := .int .u64 ((shrU ((shrU n (32 : Int).toNat) * (toU most)) (32 : Int).toNat).toNat : Int)) rfl (half_ok ((shrU n (32 : Int).toNat) * (toU most)) 32 (by first | assumption | omega | decide)) hf47 (fun _ _ => trivial) rfl ?_
  refine o_pure (p_conv (z := ((shrU ((shrU n (32 : Int).toNat) * (toU most)) (32 : Int).toNat).toNat : Int)) rfl Try.underlying22 Try.underlying3) rfl rfl rfl ?_
  refine o_pure (p_assign (v := .int .i64 (IntKind.i64.wrap ((shrU ((shrU n (32 : Int).toNat) * (toU most)) (32 : Int).toNat).toNat : Int))) rfl) rfl rfl rfl ?_
  refine o_nil ?_
  refine q_then ?_
  refine c_ret ?_
  refine q_end0 (v := .int .i64 (IntKind.i64.wrap ((shrU ((shrU n (32 : Int).toNat) * (toU most)) (32 : Int).toNat).toNat : Int))) (rt1 rfl (r_tmp rfl)) (i := 0) rfl ?_
  rfl
end Go.Proofs.Ythbfdhphnofacaa
