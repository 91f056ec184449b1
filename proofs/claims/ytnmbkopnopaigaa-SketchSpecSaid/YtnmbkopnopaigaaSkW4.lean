/- The walks, printed by a program from the translation and a specification. -/
import Derived.Test.YtnmbkopnopaigaaSkF
import Derived.Test.YtnmbkopnopaigaaSkLaw
import Derived.Test.YtnmbkopnopaigaaSkW3
import Derived.Test.YtnmbkopnopaigaaSkLaw2
namespace Go.Proofs.Ytnmbkopnopaigaa
open Go.Sx Go.RowKit
set_option maxHeartbeats 8000000 in
set_option maxRecDepth 100000 in
theorem half_ok (n : UInt64) (many : Int) (hy1 : 0 ≤ many ∧ many ≤ 64) : Fn0 Try.prog 101 [.int .u64 (n.toNat : Int), Vi many] (fun _ => True) (.int .u64 ((shrU n many.toNat).toNat : Int)) := by
 refine fn0 (nt := 14) (F0 := [(0, .int .u64 (n.toNat : Int)), (1, Vi many)]) Try.func101 rfl Try.ntmps101 rfl rfl (fun w0 hpre => ?_)
 refine c_seq (c_region ?_)
 refine o_as rfl rfl ?_
 refine o_nil (q_then (c_seq (c_seq (c_region ?_))))
 refine o_as rfl rfl ?_
 refine o_nil (q_then (c_block ?_))
 refine c_loop (St := UInt64 × Nat)
  (fun ⟨m, i⟩ => [(0, .int .u64 (m.toNat : Int)), (1, Vi many), (5, Vi (i : Int))])
  (fun ⟨m, i⟩ => [base w0])
  (fun ⟨m, i⟩ => i ≤ many.toNat ∧ m = shrU n i)
  (fun ⟨m, i⟩ => many.toNat - i)
  (n, 0) ?_ (sr (sr (sr (Sub.nil _)))) (fun _ hw => hw) ?_
 ·exact ⟨Nat.zero_le _, (Hash.shrU_zero n).symm⟩
 rintro ⟨m, i⟩ hI K hK1
 obtain ⟨hk, ho⟩ := hI
 show SC _ _ Try.prog 14 w0 _ _ [(0, .int .u64 (m.toNat : Int)), (1, Vi many), (5, Vi (i : Int))] [base w0]
 refine c_seq (c_seq (c_region ?_))
 refine o_mv rfl rfl ?_
 refine o_mv rfl rfl ?_
 refine o_p (p_lt rfl rfl) ?_
 refine o_nil (q_then ?_)
 refine c_cond rfl (fun hc2 => ?_) (fun hc2 => ?_)
 ·simp only [decide_eq_true_eq] at hc2
  refine c_skip (q_then (c_seq (c_block (c_region ?_))))
  refine o_mv rfl rfl ?_
  refine o_p (pu_quo (p := m) (q := (2 : UInt64)) rfl rfl (by first | decide | assumption)) ?_
  refine o_as rfl rfl ?_
  refine o_nil ?_
  refine q_block_normal (q_then ?_)
  refine c_region ?_
  refine o_mv rfl rfl ?_
  refine o_p (p_addb rfl rfl (by omega)) ?_
  refine o_as rfl rfl ?_
  refine o_nil ?_
  refine q_round hK1 ((m / (2 : UInt64)), i + 1) ?_ ?_ ?_ ?_
  ·clear hK1
   exact ⟨by omega, by rw [ho]; exact Hash.half_step n i⟩
  ·(try dsimp only); omega
  ·exact sr (sr (sr (Sub.nil _)))
  ·exact pk [0]
 ·simp only [decide_eq_false_iff_not, Int.not_lt] at hc2
  refine c_exit ?_
  refine q_then_exit (q_then_exit (q_block_exit (q_then ?_)))
  refine c_seq (c_region ?_)
  refine o_mv rfl rfl ?_
  refine o_as rfl rfl ?_
  refine o_nil (q_then (c_ret ?_))
  refine q_end0 (v := .int .u64 (m.toNat : Int)) (rt1 rfl (r_tmp rfl)) (i := 0) rfl ?_
  rw [show m = shrU n many.toNat by rw [ho]; congr 1; omega]

set_option maxHeartbeats 8000000 in
set_option maxRecDepth 100000 in
theorem times_ok (a : UInt64) (b : UInt64) : Fn0 Try.prog 102 [.int .u64 (a.toNat : Int), .int .u64 (b.toNat : Int)] (fun _ => True) (.int .u64 ((a * b).toNat : Int)) := by
 refine fn0 (nt := 20) (F0 := [(0, .int .u64 (a.toNat : Int)), (1, .int .u64 (b.toNat : Int))]) Try.func102 rfl Try.ntmps102 rfl rfl (fun w0 hpre => ?_)
 refine c_seq (c_region ?_)
 refine o_as rfl rfl ?_
 refine o_nil (q_then (c_seq (c_region ?_)))
 refine o_as rfl rfl ?_
 refine o_nil (q_then (c_seq (c_block ?_)))
 refine c_loop (St := UInt64 × UInt64 × UInt64)
  (fun ⟨a1, b1, sm⟩ => [(0, .int .u64 (a1.toNat : Int)), (1, .int .u64 (b1.toNat : Int)), (5, .int .u64 (sm.toNat : Int))])
  (fun ⟨a1, b1, sm⟩ => [base w0])
  (fun ⟨a1, b1, sm⟩ => sm + a1 * b1 = a * b)
  (fun ⟨a1, b1, sm⟩ => b1.toNat)
  (a, b, (0 : UInt64)) ?_ (sr (sr (sr (Sub.nil _)))) (fun _ hw => hw) ?_
 ·simp
 rintro ⟨a1, b1, sm⟩ hI K hK1
 show SC _ _ Try.prog 20 w0 _ _ [(0, .int .u64 (a1.toNat : Int)), (1, .int .u64 (b1.toNat : Int)), (5, .int .u64 (sm.toNat : Int))] [base w0]
 refine c_seq (c_seq (c_region ?_))
 refine o_mv rfl rfl ?_
 refine o_p (pu_gt (p := b1) (q := (0 : UInt64)) rfl rfl) ?_
 refine o_nil (q_then ?_)
 refine c_cond rfl (fun hc2 => ?_) (fun hc2 => ?_)
 ·simp only [decide_eq_true_eq] at hc2
  refine c_skip (q_then (c_block (c_seq (c_seq (c_region ?_)))))
  refine o_mv rfl rfl ?_
  refine o_p (pu_rem (p := b1) (q := (2 : UInt64)) rfl rfl (by first | decide | assumption)) ?_
  refine o_p (pu_eq (p := (b1 % (2 : UInt64))) (q := (1 : UInt64)) rfl rfl) ?_
  refine o_nil (q_then ?_)
  refine c_cond rfl (fun hc3 => ?_) (fun hc3 => ?_)
  ·simp only [beq_iff_eq] at hc3
   refine c_region ?_
   refine o_mv rfl rfl ?_
   refine o_mv rfl rfl ?_
   refine o_p (pu_add (p := sm) (q := a1) rfl rfl) ?_
   refine o_as rfl rfl ?_
   refine o_nil (q_then (c_seq (c_region ?_)))
   refine o_mv rfl rfl ?_
   refine o_mv rfl rfl ?_
   refine o_p (pu_add (p := a1) (q := a1) rfl rfl) ?_
   refine o_as rfl rfl ?_
   refine o_nil (q_then (c_region ?_))
   refine o_mv rfl rfl ?_
   refine o_p (pu_quo (p := b1) (q := (2 : UInt64)) rfl rfl (by first | decide | assumption)) ?_
   refine o_as rfl rfl ?_
   refine o_nil ?_
   refine q_block_normal ?_
   refine q_round hK1 ((a1 + a1), (b1 / (2 : UInt64)), (sm + a1)) ?_ ?_ ?_ ?_
   ·clear hK1
    first | exact Hash.times_odd hI (by assumption) | exact Hash.times_even hI (by assumption)
   ·exact Hash.half_less (by assumption)
   ·exact sr (sr (sr (Sub.nil _)))
   ·exact pk [0]
  ·simp only [beq_eq_false_iff_ne, ne_eq] at hc3
   refine c_skip (q_then (c_seq (c_region ?_)))
   refine o_mv rfl rfl ?_
   refine o_mv rfl rfl ?_
   refine o_p (pu_add (p := a1) (q := a1) rfl rfl) ?_
   refine o_as rfl rfl ?_
   refine o_nil (q_then (c_region ?_))
   refine o_mv rfl rfl ?_
   refine o_p (pu_quo (p := b1) (q := (2 : UInt64)) rfl rfl (by first | decide | assumption)) ?_
   refine o_as rfl rfl ?_
   refine o_nil ?_
   refine q_block_normal ?_
   refine q_round hK1 ((a1 + a1), (b1 / (2 : UInt64)), sm) ?_ ?_ ?_ ?_
   ·clear hK1
    first | exact Hash.times_odd hI (by assumption) | exact Hash.times_even hI (by assumption)
   ·exact Hash.half_less (by assumption)
   ·exact sr (sr (sr (Sub.nil _)))
   ·exact pk [0]
 ·simp only [decide_eq_false_iff_not, Int.not_lt] at hc2
  refine c_exit ?_
  refine q_then_exit (q_then_exit (q_block_exit (q_then ?_)))
  refine c_seq (c_region ?_)
  refine o_mv rfl rfl ?_
  refine o_as rfl rfl ?_
  refine o_nil (q_then (c_ret ?_))
  refine q_end0 (v := .int .u64 (sm.toNat : Int)) (rt1 rfl (r_tmp rfl)) (i := 0) rfl ?_
  rw [Hash.times_end hI (by assumption)]

set_option maxHeartbeats 8000000 in
set_option maxRecDepth 100000 in
theorem mixSum_ok (s : ByteArray) : Fn0 Try.prog 62 [.string s] (fun w => s.size ≤ 9223372036854775807) (.int .u64 ((Hash.raw s).toNat : Int)) := by
 refine fn0 (nt := 19) (F0 := [(0, .string s)]) Try.func62 rfl Try.ntmps62 rfl rfl (fun w0 hpre => ?_)
 have hs := hpre
 refine c_seq (c_region ?_)
 refine o_as rfl rfl ?_
 refine o_nil (q_then (c_seq (c_region ?_)))
 refine o_as rfl rfl ?_
 refine o_nil (q_then (c_seq (c_seq (c_region ?_))))
 refine o_as rfl rfl ?_
 refine o_nil (q_then (c_block ?_))
 refine c_loop (St := UInt64 × Nat)
  (fun ⟨n, i⟩ => [(0, .string s), (3, .int .u64 (n.toNat : Int)), (4, Vi (i : Int))])
  (fun ⟨n, i⟩ => [base w0])
  (fun ⟨n, i⟩ => i ≤ s.size ∧ n = Hash.rawTo s i)
  (fun ⟨n, i⟩ => s.size - i)
  ((14695981039346656037 : UInt64), 0) ?_ (sr (sr (sr (Sub.nil _)))) (fun _ hw => hw) ?_
 ·exact ⟨Nat.zero_le _, rfl⟩
 rintro ⟨n, i⟩ hI K hK1
 obtain ⟨hk, ho⟩ := hI
 show SC _ _ Try.prog 19 w0 _ _ [(0, .string s), (3, .int .u64 (n.toNat : Int)), (4, Vi (i : Int))] [base w0]
 refine c_seq (c_seq (c_region ?_))
 refine o_mv rfl rfl ?_
 refine o_mv rfl rfl ?_
 refine o_p (p_len_string rfl rfl Try.underlying9) ?_
 refine o_p (p_lt rfl rfl) ?_
 refine o_nil (q_then ?_)
 refine c_cond rfl (fun hc2 => ?_) (fun hc2 => ?_)
 ·simp only [decide_eq_true_eq] at hc2
  refine c_skip (q_then (c_seq (c_block (c_region ?_))))
  refine o_mv rfl rfl ?_
  refine o_mv rfl rfl ?_
  refine o_mv rfl rfl ?_
  refine o_p (p_indexStr (z := (i : Int)) (i := i) rfl rfl Try.underlying9 (by omega) (by omega)) ?_
  refine o_p (pu_convB (c := (byteAt s i)) rfl Try.underlying5 Try.underlying100) ?_
  refine o_p (pu_xor (p := n) (q := (byteAt s i).toUInt64) rfl rfl) ?_
  refine o_call0 (v := .int .u64 (((n ^^^ (byteAt s i).toUInt64) * (1099511628211 : UInt64)).toNat : Int)) rfl (times_ok (n ^^^ (byteAt s i).toUInt64) (1099511628211 : UInt64)) hf102 (fun _ _ => trivial) rfl ?_
  refine o_as rfl rfl ?_
  refine o_nil ?_
  refine q_block_normal (q_then ?_)
  refine c_region ?_
  refine o_mv rfl rfl ?_
  refine o_p (p_addb rfl rfl (by omega)) ?_
  refine o_as rfl rfl ?_
  refine o_nil ?_
  refine q_round hK1 (((n ^^^ (byteAt s i).toUInt64) * (1099511628211 : UInt64)), i + 1) ?_ ?_ ?_ ?_
  ·clear hK1
   exact ⟨by omega, by rw [ho]; rfl⟩
  ·(try dsimp only); omega
  ·exact sr (sr (sr (Sub.nil _)))
  ·exact pk [0]
 ·simp only [decide_eq_false_iff_not, Int.not_lt] at hc2
  refine c_exit ?_
  refine q_then_exit (q_then_exit (q_block_exit (q_then ?_)))
  refine c_seq (c_region ?_)
  refine o_mv rfl rfl ?_
  refine o_as rfl rfl ?_
  refine o_nil (q_then (c_ret ?_))
  refine q_end0 (v := .int .u64 (n.toNat : Int)) (rt1 rfl (r_tmp rfl)) (i := 0) rfl ?_
  rw [show n = Hash.raw s by unfold Hash.raw; rw [ho]; congr 1; omega]

set_option maxHeartbeats 8000000 in
set_option maxRecDepth 100000 in
theorem mixOf_ok (n : UInt64) : Fn0 Try.prog 61 [.int .u64 (n.toNat : Int)] (fun _ => True) (.int .u64 ((Hash.mix n).toNat : Int)) := by
 refine fn0 (nt := 17) (F0 := [(0, .int .u64 (n.toNat : Int))]) Try.func61 rfl Try.ntmps61 rfl rfl (fun w0 hpre => ?_)
 refine c_seq (c_region ?_)
 refine o_as rfl rfl ?_
 refine o_nil (q_then (c_seq (c_region ?_)))
 refine o_mv rfl rfl ?_
 refine o_mv rfl rfl ?_
 refine o_call0 (v := .int .u64 ((shrU n (30 : Int).toNat).toNat : Int)) rfl (half_ok n 30 (by first | assumption | omega | decide)) hf101 (fun _ _ => trivial) rfl ?_
 refine o_p (pu_xor (p := n) (q := (shrU n (30 : Int).toNat)) rfl rfl) ?_
 refine o_call0 (v := .int .u64 (((n ^^^ (shrU n (30 : Int).toNat)) * (13787848793156543929 : UInt64)).toNat : Int)) rfl (times_ok (n ^^^ (shrU n (30 : Int).toNat)) (13787848793156543929 : UInt64)) hf102 (fun _ _ => trivial) rfl ?_
 refine o_as rfl rfl ?_
 refine o_nil (q_then (c_seq (c_region ?_)))
 refine o_mv rfl rfl ?_
 refine o_mv rfl rfl ?_
 refine o_call0 (v := .int .u64 ((shrU ((n ^^^ (shrU n (30 : Int).toNat)) * (13787848793156543929 : UInt64)) (27 : Int).toNat).toNat : Int)) rfl (half_ok ((n ^^^ (shrU n (30 : Int).toNat)) * (13787848793156543929 : UInt64)) 27 (by first | assumption | omega | decide)) hf101 (fun _ _ => trivial) rfl ?_
 refine o_p (pu_xor (p := ((n ^^^ (shrU n (30 : Int).toNat)) * (13787848793156543929 : UInt64))) (q := (shrU ((n ^^^ (shrU n (30 : Int).toNat)) * (13787848793156543929 : UInt64)) (27 : Int).toNat)) rfl rfl) ?_
 refine o_call0 (v := .int .u64 (((((n ^^^ (shrU n (30 : Int).toNat)) * (13787848793156543929 : UInt64)) ^^^ (shrU ((n ^^^ (shrU n (30 : Int).toNat)) * (13787848793156543929 : UInt64)) (27 : Int).toNat)) * (10723151780598845931 : UInt64)).toNat : Int)) rfl (times_ok (((n ^^^ (shrU n (30 : Int).toNat)) * (13787848793156543929 : UInt64)) ^^^ (shrU ((n ^^^ (shrU n (30 : Int).toNat)) * (13787848793156543929 : UInt64)) (27 : Int).toNat)) (10723151780598845931 : UInt64)) hf102 (fun _ _ => trivial) rfl ?_
 refine o_as rfl rfl ?_
 refine o_nil (q_then (c_seq (c_region ?_)))
 refine o_mv rfl rfl ?_
 refine o_mv rfl rfl ?_
 refine o_call0 (v := .int .u64 ((shrU ((((n ^^^ (shrU n (30 : Int).toNat)) * (13787848793156543929 : UInt64)) ^^^ (shrU ((n ^^^ (shrU n (30 : Int).toNat)) * (13787848793156543929 : UInt64)) (27 : Int).toNat)) * (10723151780598845931 : UInt64)) (31 : Int).toNat).toNat : Int)) rfl (half_ok ((((n ^^^ (shrU n (30 : Int).toNat)) * (13787848793156543929 : UInt64)) ^^^ (shrU ((n ^^^ (shrU n (30 : Int).toNat)) * (13787848793156543929 : UInt64)) (27 : Int).toNat)) * (10723151780598845931 : UInt64)) 31 (by first | assumption | omega | decide)) hf101 (fun _ _ => trivial) rfl ?_
 refine o_p (pu_xor (p := ((((n ^^^ (shrU n (30 : Int).toNat)) * (13787848793156543929 : UInt64)) ^^^ (shrU ((n ^^^ (shrU n (30 : Int).toNat)) * (13787848793156543929 : UInt64)) (27 : Int).toNat)) * (10723151780598845931 : UInt64))) (q := (shrU ((((n ^^^ (shrU n (30 : Int).toNat)) * (13787848793156543929 : UInt64)) ^^^ (shrU ((n ^^^ (shrU n (30 : Int).toNat)) * (13787848793156543929 : UInt64)) (27 : Int).toNat)) * (10723151780598845931 : UInt64)) (31 : Int).toNat)) rfl rfl) ?_
 refine o_as rfl rfl ?_
 refine o_nil (q_then (c_ret ?_))
 refine q_end0 (v := .int .u64 ((((((n ^^^ (shrU n (30 : Int).toNat)) * (13787848793156543929 : UInt64)) ^^^ (shrU ((n ^^^ (shrU n (30 : Int).toNat)) * (13787848793156543929 : UInt64)) (27 : Int).toNat)) * (10723151780598845931 : UInt64)) ^^^ (shrU ((((n ^^^ (shrU n (30 : Int).toNat)) * (13787848793156543929 : UInt64)) ^^^ (shrU ((n ^^^ (shrU n (30 : Int).toNat)) * (13787848793156543929 : UInt64)) (27 : Int).toNat)) * (10723151780598845931 : UInt64)) (31 : Int).toNat)).toNat : Int)) (rt1 rfl (r_tmp rfl)) (i := 0) rfl ?_
 rfl

set_option maxHeartbeats 8000000 in
set_option maxRecDepth 100000 in
theorem mixFold_ok (n : UInt64) (most : Int) : Fn0 Try.prog 60 [.int .u64 (n.toNat : Int), Vi most] (fun _ => True) (Vi (Hash.rawFold n most)) := by
 refine fn0 (nt := 14) (F0 := [(0, .int .u64 (n.toNat : Int)), (1, Vi most)]) Try.func60 rfl Try.ntmps60 rfl rfl (fun w0 hpre => ?_)
 refine c_seq (c_region ?_)
 refine o_as rfl rfl ?_
 refine o_nil (q_then (c_seq (c_region ?_)))
 refine o_mv rfl rfl ?_
 refine o_call0 (v := .int .u64 ((shrU n (32 : Int).toNat).toNat : Int)) rfl (half_ok n 32 (by first | assumption | omega | decide)) hf101 (fun _ _ => trivial) rfl ?_
 refine o_as rfl rfl ?_
 refine o_nil (q_then (c_seq (c_region ?_)))
 refine o_mv rfl rfl ?_
 refine o_mv rfl rfl ?_
 refine o_p (pu_conv (z := most) rfl Try.underlying3 Try.underlying100) ?_
 refine o_call0 (v := .int .u64 (((shrU n (32 : Int).toNat) * (toU most)).toNat : Int)) rfl (times_ok (shrU n (32 : Int).toNat) (toU most)) hf102 (fun _ _ => trivial) rfl ?_
 refine o_call0 (v := .int .u64 ((shrU ((shrU n (32 : Int).toNat) * (toU most)) (32 : Int).toNat).toNat : Int)) rfl (half_ok ((shrU n (32 : Int).toNat) * (toU most)) 32 (by first | assumption | omega | decide)) hf101 (fun _ _ => trivial) rfl ?_
 refine o_p (p_conv (z := ((shrU ((shrU n (32 : Int).toNat) * (toU most)) (32 : Int).toNat).toNat : Int)) rfl Try.underlying100 Try.underlying3) ?_
 refine o_as rfl rfl ?_
 refine o_nil (q_then (c_ret ?_))
 refine q_end0 (v := Vi (IntKind.i64.wrap ((shrU ((shrU n (32 : Int).toNat) * (toU most)) (32 : Int).toNat).toNat : Int))) (rt1 rfl (r_tmp rfl)) (i := 0) rfl ?_
 rfl

set_option maxHeartbeats 8000000 in
set_option maxRecDepth 100000 in
theorem between_ok (n : Int) (a : Int) (b : Int) : Fn0 Try.prog 59 [Vi n, Vi a, Vi b] (fun _ => True) (.bool (Ref.between n a b)) := by
 refine fn0 (nt := 15) (F0 := [(0, Vi n), (1, Vi a), (2, Vi b)]) Try.func59 rfl Try.ntmps59 rfl rfl (fun w0 hpre => ?_)
 refine c_seq (c_region ?_)
 refine o_as rfl rfl ?_
 refine o_nil (q_then (c_seq (c_region ?_)))
 refine o_mv rfl rfl ?_
 refine o_mv rfl rfl ?_
 refine o_p (p_ge rfl rfl) ?_
 refine o_mv rfl rfl ?_
 refine o_and (p := 14) 4 (decide (n ≤ b)) ?_ ?_ ?_
 ·intro hb1 hk
  simp only [decide_eq_true_eq] at hb1
  refine o_unguard 10 rfl rfl ?_
  refine o_mv rfl rfl ?_
  refine o_unguard 10 rfl rfl ?_
  refine o_mv rfl rfl ?_
  refine o_unguard 10 rfl rfl ?_
  refine o_p (p_le rfl rfl) ?_
  refine o_pt rfl rfl rfl ?_
  exact o_sub (sr (Sub.skip rfl (Sub.skip rfl (Sub.skip rfl (Sub.skip rfl (Sub.skip rfl (Sub.refl _))))))) hk
 ·intro hb1 hk
  refine o_guard_no rfl 10 rfl rfl rfl rfl rfl ?_
  refine o_guard_no rfl 10 rfl rfl rfl rfl rfl ?_
  refine o_guard_no rfl 10 rfl rfl rfl rfl rfl ?_
  refine o_pf rfl rfl rfl ?_
  exact o_sub (sr (Sub.skip rfl (Sub.skip rfl (Sub.skip rfl (Sub.skip rfl (Sub.skip rfl (Sub.refl _))))))) hk
 refine o_as rfl rfl ?_
 refine o_nil (q_then (c_ret ?_))
 have hr0 : ((decide (a ≤ n) && decide (n ≤ b)) : Bool) = (Ref.between n a b) := by
  rfl
 refine q_end0 (v := .bool (decide (a ≤ n) && decide (n ≤ b))) (rt1 rfl (r_tmp rfl)) (i := 0) rfl ?_
 exact (by have hcc := congrArg (fun (y0 : Bool) => (.bool y0 : Value)) hr0; exact hcc)

set_option maxHeartbeats 8000000 in
set_option maxRecDepth 100000 in
theorem sameInts_ok (a : List Int) (aa : Option Addr) (ca : Nat) (b : List Int) (ab : Option Addr) (cb : Nat) : Fn0 Try.prog 64 [.slice aa a.length ca, .slice ab b.length cb] (fun w => Rd tInt w aa ca a ∧ Rd tInt w ab cb b) (.bool (Ref.sameInts a b)) := by
 refine fn0 (nt := 26) (F0 := [(0, .slice aa a.length ca), (1, .slice ab b.length cb)]) Try.func64 rfl Try.ntmps64 rfl rfl (fun w0 hpre => ?_)
 obtain ⟨ha, hb⟩ := hpre
 have hlha := ha.2.1
 have hlhb := hb.2.1
 refine c_seq (c_region ?_)
 refine o_as rfl rfl ?_
 refine o_nil (q_then (c_seq (c_seq (c_region ?_))))
 refine o_mv rfl rfl ?_
 refine o_p (p_len_slice rfl rfl Try.underlying37) ?_
 refine o_mv rfl rfl ?_
 refine o_p (p_len_slice rfl rfl Try.underlying37) ?_
 refine o_p (p_ne rfl rfl) ?_
 refine o_nil (q_then ?_)
 refine c_cond rfl (fun hc1 => ?_) (fun hc1 => ?_)
 ·simp only [bne_iff_ne, ne_eq] at hc1
  refine c_seq (c_region ?_)
  refine o_as rfl rfl ?_
  refine o_nil (q_then (c_ret ?_))
  refine q_then_ret ?_
  have hr0 : (false : Bool) = (Ref.sameInts a b) := by
   simp only [Ref.sameInts]
   grind [List.ext_getElem]
  refine q_end0 (v := .bool false) (rt1 rfl (r_tmp rfl)) (i := 0) rfl ?_
  exact (by have hcc := congrArg (fun (y0 : Bool) => (.bool y0 : Value)) hr0; exact hcc)
 ·simp only [bne_eq_false_iff_eq] at hc1
  refine c_skip (q_then (c_seq (c_seq (c_region ?_))))
  refine o_as rfl rfl ?_
  refine o_nil (q_then (c_block ?_))
  refine c_loop (St := Nat)
   (fun i => [(0, .slice aa a.length ca), (1, .slice ab b.length cb), (5, Vi (i : Int))])
   (fun i => [base w0])
   (fun i => i ≤ a.length ∧ ∀ j (h1 : j < a.length) (h2 : j < b.length), j < i → a[j] = b[j])
   (fun i => a.length - i)
   0 ?_ (sr (sr (sr (Sub.nil _)))) (fun _ hw => hw) ?_
  ·exact ⟨Nat.zero_le _, fun j _ _ h => absurd h (by omega)⟩
  rintro i hI K hK2
  obtain ⟨hi, hinv⟩ := hI
  show SC _ _ Try.prog 26 w0 _ _ [(0, .slice aa a.length ca), (1, .slice ab b.length cb), (5, Vi (i : Int))] [base w0]
  refine c_seq (c_seq (c_region ?_))
  refine o_mv rfl rfl ?_
  refine o_mv rfl rfl ?_
  refine o_p (p_len_slice rfl rfl Try.underlying37) ?_
  refine o_p (p_lt rfl rfl) ?_
  refine o_nil (q_then ?_)
  refine c_cond rfl (fun hc3 => ?_) (fun hc3 => ?_)
  ·simp only [decide_eq_true_eq] at hc3
   refine c_skip (q_then (c_seq (c_block (c_seq ?_))))
   refine c_draw hmix (by kernel_rfl) ?_
   refine w_mv rfl rfl ?_
   refine w_mv rfl rfl ?_
   refine w_p (p_indexAddr (L := a) (T := tInt) (i := (i : Int)) rfl rfl (rd_base (i := 0) rfl ha) Try.underlying37 sz3 (by omega) (by omega)) ?_
   refine w_p (p_loadE1 (i := i) (T := tInt) (L := a) (v := Vi (a[i])) rfl (rd_base (i := 0) rfl ha) (by first | assumption | omega) sh3 rfl) ?_
   refine w_mv rfl rfl ?_
   refine w_mv rfl rfl ?_
   refine w_p (p_indexAddr (L := b) (T := tInt) (i := (i : Int)) rfl rfl (rd_base (i := 0) rfl hb) Try.underlying37 sz3 (by omega) (by omega)) ?_
   refine w_p (p_loadE1 (i := i) (T := tInt) (L := b) (v := Vi (b[i])) rfl (rd_base (i := 0) rfl hb) (by first | assumption | omega) sh3 rfl) ?_
   refine w_p (p_ne rfl rfl) ?_
   refine w_nil (q_then ?_)
   refine c_cond rfl (fun hc4 => ?_) (fun hc4 => ?_)
   ·simp only [bne_iff_ne, ne_eq] at hc4
    refine c_seq (c_region ?_)
    refine o_as rfl rfl ?_
    refine o_nil (q_then (c_ret ?_))
    refine q_block_ret (q_then_ret (q_then_ret (q_block_ret (q_then_ret ?_))))
    have hr0 : (false : Bool) = (Ref.sameInts a b) := by
     simp only [Ref.sameInts]
     grind [List.ext_getElem]
    refine q_end0 (v := .bool false) (rt1 rfl (r_tmp rfl)) (i := 0) rfl ?_
    exact (by have hcc := congrArg (fun (y0 : Bool) => (.bool y0 : Value)) hr0; exact hcc)
   ·simp only [bne_eq_false_iff_eq] at hc4
    refine c_skip ?_
    refine q_block_normal (q_then ?_)
    refine c_region ?_
    refine o_mv rfl rfl ?_
    refine o_p (p_addb rfl rfl (by omega)) ?_
    refine o_as rfl rfl ?_
    refine o_nil ?_
    refine q_round hK2 (i + 1) ?_ ?_ ?_ ?_
    ·clear hK2
     refine ⟨by omega, ?_⟩
     grind
    ·(try dsimp only); omega
    ·exact sr (sr (sr (Sub.nil _)))
    ·exact pk [0]
  ·simp only [decide_eq_false_iff_not, Int.not_lt] at hc3
   refine c_exit ?_
   refine q_then_exit (q_then_exit (q_block_exit (q_then ?_)))
   refine c_seq (c_region ?_)
   refine o_as rfl rfl ?_
   refine o_nil (q_then (c_ret ?_))
   have hr0 : (true : Bool) = (Ref.sameInts a b) := by
    simp only [Ref.sameInts]
    grind [List.ext_getElem]
   refine q_end0 (v := .bool true) (rt1 rfl (r_tmp rfl)) (i := 0) rfl ?_
   exact (by have hcc := congrArg (fun (y0 : Bool) => (.bool y0 : Value)) hr0; exact hcc)

set_option maxHeartbeats 8000000 in
set_option maxRecDepth 100000 in
theorem sumOf_ok (l : List Int) (al : Option Addr) (cl : Nat) (hy1 : l.length ≤ 64 ∧ ∀ n ∈ l, 0 ≤ n ∧ n ≤ 1099511627776) : Fn0 Try.prog 23 [.slice al l.length cl] (fun w => Rd tInt w al cl l) (Vi (Sk.sum l)) := by
 refine fn0 (nt := 18) (F0 := [(0, .slice al l.length cl)]) Try.func23 rfl Try.ntmps23 rfl rfl (fun w0 hpre => ?_)
 have hl := hpre
 have hlhl := hl.2.1
 refine c_seq (c_region ?_)
 refine o_as rfl rfl ?_
 refine o_nil (q_then (c_seq (c_region ?_)))
 refine o_as rfl rfl ?_
 refine o_nil (q_then (c_seq (c_seq (c_region ?_))))
 refine o_as rfl rfl ?_
 refine o_nil (q_then (c_block ?_))
 refine c_loop (St := Int × Nat)
  (fun ⟨n, i⟩ => [(0, .slice al l.length cl), (3, Vi n), (4, Vi (i : Int))])
  (fun ⟨n, i⟩ => [base w0])
  (fun ⟨n, i⟩ => i ≤ l.length ∧ n = Sk.sum (l.take i))
  (fun ⟨n, i⟩ => l.length - i)
  (0, 0) ?_ (sr (sr (sr (Sub.nil _)))) (fun _ hw => hw) ?_
 ·exact ⟨Nat.zero_le _, rfl⟩
 rintro ⟨n, i⟩ hI K hK1
 show SC _ _ Try.prog 18 w0 _ _ [(0, .slice al l.length cl), (3, Vi n), (4, Vi (i : Int))] [base w0]
 refine c_seq (c_seq (c_region ?_))
 refine o_mv rfl rfl ?_
 refine o_mv rfl rfl ?_
 refine o_p (p_len_slice rfl rfl Try.underlying37) ?_
 refine o_p (p_lt rfl rfl) ?_
 refine o_nil (q_then ?_)
 refine c_cond rfl (fun hc2 => ?_) (fun hc2 => ?_)
 ·simp only [decide_eq_true_eq] at hc2
  have hel := Sk.el_bd hy1.2 (show i < l.length by omega)
  have htb := Sk.take_bd hy1.2 i
  refine c_skip (q_then (c_seq (c_block (c_region ?_))))
  refine o_mv rfl rfl ?_
  refine o_mv rfl rfl ?_
  refine o_mv rfl rfl ?_
  refine o_p (p_indexAddr (L := l) (T := tInt) (i := (i : Int)) rfl rfl (rd_base (i := 0) rfl hl) Try.underlying37 sz3 (by omega) (by omega)) ?_
  refine o_p (p_loadE1 (i := i) (T := tInt) (L := l) (v := Vi (l.getD i default)) rfl (rd_base (i := 0) rfl hl) (by first | assumption | omega) sh3 (congrArg tInt.enc (getd_at (by first | assumption | omega) default))) ?_
  refine o_p (p_addb rfl rfl (by omega)) ?_
  refine o_as rfl rfl ?_
  refine o_nil ?_
  refine q_block_normal (q_then ?_)
  refine c_region ?_
  refine o_mv rfl rfl ?_
  refine o_p (p_addb rfl rfl (by omega)) ?_
  refine o_as rfl rfl ?_
  refine o_nil ?_
  refine q_round hK1 ((n + (l.getD i default)), i + 1) ?_ ?_ ?_ ?_
  ·clear hK1
   exact ⟨by omega, by rw [Sk.sum_take (by omega), hI.2]⟩
  ·(try dsimp only); omega
  ·exact sr (sr (sr (Sub.nil _)))
  ·exact pk [0]
 ·simp only [decide_eq_false_iff_not, Int.not_lt] at hc2
  refine c_exit ?_
  refine q_then_exit (q_then_exit (q_block_exit (q_then ?_)))
  refine c_seq (c_region ?_)
  refine o_mv rfl rfl ?_
  refine o_as rfl rfl ?_
  refine o_nil (q_then (c_ret ?_))
  have hr0 : (n : Int) = (Sk.sum l) := by
   (rw [hI.2]; exact Sk.take_all (by omega))
  refine q_end0 (v := Vi n) (rt1 rfl (r_tmp rfl)) (i := 0) rfl ?_
  exact (by have hcc := congrArg (fun (y0 : Int) => (.int .i64 y0 : Value)) hr0; exact hcc)

set_option maxHeartbeats 8000000 in
set_option maxRecDepth 100000 in
theorem sketchEven_ok (rows : List (List Int)) (arows : Option Addr) (crows : NC) (hy1 : Sk.Vals rows) : Fn0 Try.prog 24 [.slice arows rows.length crows.n] (fun w => RdN tInt w arows crows rows) (.bool (Sk.even rows)) := by
 refine fn0 (nt := 22) (F0 := [(0, .slice arows rows.length crows.n)]) Try.func24 rfl Try.ntmps24 rfl rfl (fun w0 hpre => ?_)
 have hrows := hpre
 have hlhrows := hrows.2.1
 refine c_seq (c_region ?_)
 refine o_as rfl rfl ?_
 refine o_nil (q_then (c_seq (c_seq (c_region ?_))))
 refine o_as rfl rfl ?_
 refine o_nil (q_then (c_block ?_))
 refine c_loop (St := Nat)
  (fun i => [(0, .slice arows rows.length crows.n), (3, Vi (i : Int))])
  (fun i => [base w0])
  (fun i => 1 ≤ i ∧ ∀ j, j < i → Sk.sum (rows.getD j []) = Sk.sum (rows.getD 0 []))
  (fun i => rows.length - i)
  1 ?_ (sr (sr (Sub.nil _))) (fun _ hw => hw) ?_
 ·exact ⟨Nat.le_refl _, fun j h => by rw [show j = 0 by omega]⟩
 rintro i hI K hK1
 show SC _ _ Try.prog 22 w0 _ _ [(0, .slice arows rows.length crows.n), (3, Vi (i : Int))] [base w0]
 refine c_seq (c_seq (c_region ?_))
 refine o_mv rfl rfl ?_
 refine o_mv rfl rfl ?_
 refine o_p (p_len_slice rfl rfl Try.underlying22) ?_
 refine o_p (p_lt rfl rfl) ?_
 refine o_nil (q_then ?_)
 refine c_cond rfl (fun hc2 => ?_) (fun hc2 => ?_)
 ·simp only [decide_eq_true_eq] at hc2
  refine c_skip (q_then (c_seq (c_block (c_seq ?_))))
  refine c_draw hmix (by kernel_rfl) ?_
  refine w_mv rfl rfl ?_
  refine w_mv rfl rfl ?_
  refine w_p (p_indexAddrN (T := tInt) (c := crows) (LL := rows) (i := (i : Int)) rfl rfl (rd_baseN (i := 0) rfl hrows) Try.underlying22 sz37 (by first | omega | decide) (by first | omega | decide)) ?_
  refine w_p (p_loadN (T := tInt) (c := crows) (LL := rows) (i := i) rfl (rd_baseN (i := 0) rfl hrows) (by first | assumption | omega | decide) sh37) ?_
  refine w_call0 (v := Vi (Sk.sum (rows.getD i []))) rfl (sumOf_ok (rows.getD i []) (crows.ra i) (crows.rc i) (by first | assumption | exact hy1.row (by omega) | exact hvals.row (by omega))) hf23 (fun w hw => (rd_rowN (i := i) (rd_baseN (i := 0) rfl hrows) (by first | assumption | omega)) w hw) rfl ?_
  refine w_mv rfl rfl ?_
  refine w_mv rfl rfl ?_
  refine w_p (p_subb rfl rfl (by omega)) ?_
  refine w_p (p_indexAddrN (T := tInt) (c := crows) (LL := rows) (i := ((i : Int) - 1)) rfl rfl (rd_baseN (i := 0) rfl hrows) Try.underlying22 sz37 (by first | omega | decide) (by first | omega | decide)) ?_
  refine w_p (p_loadN (T := tInt) (c := crows) (LL := rows) (i := ((i : Int) - 1).toNat) rfl (rd_baseN (i := 0) rfl hrows) (by first | assumption | omega | decide) sh37) ?_
  refine w_call0 (v := Vi (Sk.sum (rows.getD (((i : Int) - 1).toNat) []))) rfl (sumOf_ok (rows.getD (((i : Int) - 1).toNat) []) (crows.ra (((i : Int) - 1).toNat)) (crows.rc (((i : Int) - 1).toNat)) (by first | assumption | exact hy1.row (by omega) | exact hvals.row (by omega))) hf23 (fun w hw => (rd_rowN (i := ((i : Int) - 1).toNat) (rd_baseN (i := 0) rfl hrows) (by first | assumption | omega)) w hw) rfl ?_
  refine w_p (p_ne rfl rfl) ?_
  refine w_nil (q_then ?_)
  refine c_cond rfl (fun hc3 => ?_) (fun hc3 => ?_)
  ·simp only [bne_iff_ne, ne_eq] at hc3
   have hsm := hc3
   refine c_seq (c_region ?_)
   refine o_as rfl rfl ?_
   refine o_nil (q_then (c_ret ?_))
   refine q_block_ret (q_then_ret (q_then_ret (q_block_ret (q_then_ret ?_))))
   have hr0 : (false : Bool) = (Sk.even rows) := by
    first | exact (Sk.ev_no (by omega) (by omega) hI.2 hsm).symm | exact (Sk.ev_yes (by omega) hI.2).symm
   refine q_end0 (v := .bool false) (rt1 rfl (r_tmp rfl)) (i := 0) rfl ?_
   exact (by have hcc := congrArg (fun (y0 : Bool) => (.bool y0 : Value)) hr0; exact hcc)
  ·simp only [bne_eq_false_iff_eq] at hc3
   have hsm := hc3
   refine c_skip ?_
   refine q_block_normal (q_then ?_)
   refine c_region ?_
   refine o_mv rfl rfl ?_
   refine o_p (p_addb rfl rfl (by omega)) ?_
   refine o_as rfl rfl ?_
   refine o_nil ?_
   refine q_round hK1 (i + 1) ?_ ?_ ?_ ?_
   ·clear hK1
    exact ⟨by omega, Sk.ev_step hI.1 hI.2 hsm⟩
   ·(try dsimp only); omega
   ·exact sr (sr (Sub.nil _))
   ·exact pk [0]
 ·simp only [decide_eq_false_iff_not, Int.not_lt] at hc2
  refine c_exit ?_
  refine q_then_exit (q_then_exit (q_block_exit (q_then ?_)))
  refine c_seq (c_region ?_)
  refine o_as rfl rfl ?_
  refine o_nil (q_then (c_ret ?_))
  have hr0 : (true : Bool) = (Sk.even rows) := by
   first | exact (Sk.ev_no (by omega) (by omega) hI.2 hsm).symm | exact (Sk.ev_yes (by omega) hI.2).symm
  refine q_end0 (v := .bool true) (rt1 rfl (r_tmp rfl)) (i := 0) rfl ?_
  exact (by have hcc := congrArg (fun (y0 : Bool) => (.bool y0 : Value)) hr0; exact hcc)

set_option maxHeartbeats 8000000 in
set_option maxRecDepth 100000 in
theorem sketchCheck_ok (s : DSketch) (as_0 : Option Addr) (cs_0 : NC) : Fn0 Try.prog 18 [.agg #[Vi s.wide, .slice as_0 s.counts.length cs_0.n]] (fun w => RdN tInt w as_0 cs_0 s.counts) (Vi (Sk.check s)) := by
 refine fn0 (nt := 53) (F0 := [(0, .agg #[Vi s.wide, .slice as_0 s.counts.length cs_0.n])]) Try.func18 rfl Try.ntmps18 rfl rfl (fun w0 hpre => ?_)
 have hs_0 := hpre
 have hlhs_0 := hs_0.2.1
 refine c_seq (c_region ?_)
 refine o_box (v := .agg #[Vi s.wide, .slice as_0 s.counts.length cs_0.n]) rfl rfl (fun B1 => ?_)
 refine o_as rfl rfl ?_
 refine o_nil (q_then (c_seq (c_seq (c_region ?_))))
 refine o_p (p_fieldAddr (j' := 1) rfl fo24_1 rfl) ?_
 refine o_p (p_load (i := 0) (v := .slice as_0 s.counts.length cs_0.n) rfl rfl sh22 rfl) ?_
 refine o_p (p_len_slice rfl rfl Try.underlying22) ?_
 refine o_p (p_eq rfl rfl) ?_
 refine o_nil (q_then ?_)
 refine c_cond rfl (fun hc2 => ?_) (fun hc2 => ?_)
 ·simp only [beq_iff_eq] at hc2
  refine c_seq (c_region ?_)
  refine o_as rfl rfl ?_
  refine o_nil (q_then (c_ret ?_))
  refine q_then_ret ?_
  have hr0 : (1 : Int) = (Sk.check s) := by
   first | exact (Sk.ck1 (by omega)).symm | exact (Sk.ck2 (by omega)).symm | exact (Sk.ck3 (by omega) (by omega) (by simp [Ref.between] at hwd; omega)).symm | exact ((Sk.ck4 (by omega) (by omega) hwd (by omega) hO.2 (by rw [Sk.rowE1 hln]; decide)).trans (Sk.rowE1 hln)).symm | exact ((Sk.ck4 (by omega) (by omega) hwd (by omega) hO.2 (by rw [Sk.rowE3 hln (by omega) hbt]; decide)).trans (Sk.rowE3 hln (by omega) hbt)).symm | exact (Sk.ck5 (by omega) (by omega) hwd (k := r) (by omega) hI.2 (by assumption)).symm | exact (Sk.ck6 (by omega) (by omega) hwd (k := r) (by omega) hI.2 (by assumption)).symm
  refine q_end0 (v := Vi 1) (rt1 rfl (r_tmp rfl)) (i := 1) rfl ?_
  exact (by have hcc := congrArg (fun (y0 : Int) => (.int .i64 y0 : Value)) hr0; exact hcc)
 ·simp only [beq_eq_false_iff_ne, ne_eq] at hc2
  refine c_skip (q_then (c_seq (c_seq (c_region ?_))))
  refine o_p (p_fieldAddr (j' := 1) rfl fo24_1 rfl) ?_
  refine o_p (p_load (i := 0) (v := .slice as_0 s.counts.length cs_0.n) rfl rfl sh22 rfl) ?_
  refine o_p (p_len_slice rfl rfl Try.underlying22) ?_
  refine o_p (p_gt rfl rfl) ?_
  refine o_nil (q_then ?_)
  refine c_cond rfl (fun hc3 => ?_) (fun hc3 => ?_)
  ·simp only [decide_eq_true_eq] at hc3
   refine c_seq (c_region ?_)
   refine o_as rfl rfl ?_
   refine o_nil (q_then (c_ret ?_))
   refine q_then_ret ?_
   have hr0 : (2 : Int) = (Sk.check s) := by
    first | exact (Sk.ck1 (by omega)).symm | exact (Sk.ck2 (by omega)).symm | exact (Sk.ck3 (by omega) (by omega) (by simp [Ref.between] at hwd; omega)).symm | exact ((Sk.ck4 (by omega) (by omega) hwd (by omega) hO.2 (by rw [Sk.rowE1 hln]; decide)).trans (Sk.rowE1 hln)).symm | exact ((Sk.ck4 (by omega) (by omega) hwd (by omega) hO.2 (by rw [Sk.rowE3 hln (by omega) hbt]; decide)).trans (Sk.rowE3 hln (by omega) hbt)).symm | exact (Sk.ck5 (by omega) (by omega) hwd (k := r) (by omega) hI.2 (by assumption)).symm | exact (Sk.ck6 (by omega) (by omega) hwd (k := r) (by omega) hI.2 (by assumption)).symm
   refine q_end0 (v := Vi 2) (rt1 rfl (r_tmp rfl)) (i := 1) rfl ?_
   exact (by have hcc := congrArg (fun (y0 : Int) => (.int .i64 y0 : Value)) hr0; exact hcc)
  ·simp only [decide_eq_false_iff_not, Int.not_lt] at hc3
   refine c_skip (q_then (c_seq (c_seq (c_region ?_))))
   refine o_p (p_fieldAddr (j' := 0) rfl fo24_0 rfl) ?_
   refine o_p (p_load (i := 0) (v := Vi s.wide) rfl rfl sh3 rfl) ?_
   refine o_call0 (v := .bool (Ref.between s.wide (1 : Int) (64 : Int))) rfl (between_ok s.wide (1 : Int) (64 : Int)) hf59 (fun _ _ => trivial) rfl ?_
   refine o_p (p_not (b := (Ref.between s.wide (1 : Int) (64 : Int))) rfl) ?_
   refine o_nil (q_then ?_)
   refine c_cond rfl (fun hc4 => ?_) (fun hc4 => ?_)
   ·simp only [Bool.not_eq_true'] at hc4
    have hwd := hc4
    refine c_seq (c_region ?_)
    refine o_as rfl rfl ?_
    refine o_nil (q_then (c_ret ?_))
    refine q_then_ret ?_
    have hr0 : (3 : Int) = (Sk.check s) := by
     first | exact (Sk.ck1 (by omega)).symm | exact (Sk.ck2 (by omega)).symm | exact (Sk.ck3 (by omega) (by omega) (by simp [Ref.between] at hwd; omega)).symm | exact ((Sk.ck4 (by omega) (by omega) hwd (by omega) hO.2 (by rw [Sk.rowE1 hln]; decide)).trans (Sk.rowE1 hln)).symm | exact ((Sk.ck4 (by omega) (by omega) hwd (by omega) hO.2 (by rw [Sk.rowE3 hln (by omega) hbt]; decide)).trans (Sk.rowE3 hln (by omega) hbt)).symm | exact (Sk.ck5 (by omega) (by omega) hwd (k := r) (by omega) hI.2 (by assumption)).symm | exact (Sk.ck6 (by omega) (by omega) hwd (k := r) (by omega) hI.2 (by assumption)).symm
    refine q_end0 (v := Vi 3) (rt1 rfl (r_tmp rfl)) (i := 1) rfl ?_
    exact (by have hcc := congrArg (fun (y0 : Int) => (.int .i64 y0 : Value)) hr0; exact hcc)
   ·simp only [Bool.not_eq_false'] at hc4
    have hwd := Sk.between_wide.1 hc4
    refine c_skip (q_then (c_seq (c_seq (c_region ?_))))
    refine o_as rfl rfl ?_
    refine o_nil (q_then (c_block ?_))
    refine c_loop (St := Nat)
     (fun r => [(1, .pointer (some ⟨B1, 0, none⟩)), (3, Vi (r : Int))])
     (fun r => [box B1 [Vi s.wide, .slice as_0 s.counts.length cs_0.n] 24, base w0])
     (fun r => r ≤ s.counts.length ∧ ∀ j, j < r → Sk.rowErr (s.counts.getD j []) s.wide = 0)
     (fun r => s.counts.length - r)
     0 ?_ (sr (sr (Sub.nil _))) (fun _ hw => hw) ?_
    ·exact ⟨Nat.zero_le _, fun j h => absurd h (Nat.not_lt_zero j)⟩
    rintro r hI K hK5
    show SC _ _ Try.prog 53 w0 _ _ [(1, .pointer (some ⟨B1, 0, none⟩)), (3, Vi (r : Int))] [box B1 [Vi s.wide, .slice as_0 s.counts.length cs_0.n] 24, base w0]
    refine c_seq (c_seq (c_region ?_))
    refine o_mv rfl rfl ?_
    refine o_p (p_fieldAddr (j' := 1) rfl fo24_1 rfl) ?_
    refine o_p (p_load (i := 0) (v := .slice as_0 s.counts.length cs_0.n) rfl rfl sh22 rfl) ?_
    refine o_p (p_len_slice rfl rfl Try.underlying22) ?_
    refine o_p (p_lt rfl rfl) ?_
    refine o_nil (q_then ?_)
    refine c_cond rfl (fun hc6 => ?_) (fun hc6 => ?_)
    ·simp only [decide_eq_true_eq] at hc6
     refine c_skip (q_then (c_seq (c_block (c_seq (c_seq ?_)))))
     refine c_draw hmix (by kernel_rfl) ?_
     refine w_p (p_fieldAddr (j' := 1) rfl fo24_1 rfl) ?_
     refine w_p (p_load (i := 0) (v := .slice as_0 s.counts.length cs_0.n) rfl rfl sh22 rfl) ?_
     refine w_mv rfl rfl ?_
     refine w_p (p_indexAddrN (T := tInt) (c := cs_0) (LL := s.counts) (i := (r : Int)) rfl rfl (rd_baseN (i := 1) rfl hs_0) Try.underlying22 sz37 (by first | omega | decide) (by first | omega | decide)) ?_
     refine w_p (p_loadN (T := tInt) (c := cs_0) (LL := s.counts) (i := r) rfl (rd_baseN (i := 1) rfl hs_0) (by first | assumption | omega | decide) sh37) ?_
     refine w_p (p_len_slice rfl rfl Try.underlying37) ?_
     refine w_p (p_fieldAddr (j' := 0) rfl fo24_0 rfl) ?_
     refine w_p (p_load (i := 0) (v := Vi s.wide) rfl rfl sh3 rfl) ?_
     refine w_p (p_ne rfl rfl) ?_
     refine w_nil (q_then ?_)
     refine c_cond rfl (fun hc7 => ?_) (fun hc7 => ?_)
     ·simp only [bne_iff_ne, ne_eq] at hc7
      have hln := hc7
      have hO := hI
      refine c_seq (c_region ?_)
      refine o_as rfl rfl ?_
      refine o_nil (q_then (c_ret ?_))
      refine q_then_ret (q_block_ret (q_then_ret (q_then_ret (q_block_ret (q_then_ret ?_)))))
      have hr0 : (1 : Int) = (Sk.check s) := by
       first | exact (Sk.ck1 (by omega)).symm | exact (Sk.ck2 (by omega)).symm | exact (Sk.ck3 (by omega) (by omega) (by simp [Ref.between] at hwd; omega)).symm | exact ((Sk.ck4 (by omega) (by omega) hwd (by omega) hO.2 (by rw [Sk.rowE1 hln]; decide)).trans (Sk.rowE1 hln)).symm | exact ((Sk.ck4 (by omega) (by omega) hwd (by omega) hO.2 (by rw [Sk.rowE3 hln (by omega) hbt]; decide)).trans (Sk.rowE3 hln (by omega) hbt)).symm | exact (Sk.ck5 (by omega) (by omega) hwd (k := r) (by omega) hI.2 (by assumption)).symm | exact (Sk.ck6 (by omega) (by omega) hwd (k := r) (by omega) hI.2 (by assumption)).symm
      refine q_end0 (v := Vi 1) (rt1 rfl (r_tmp rfl)) (i := 1) rfl ?_
      exact (by have hcc := congrArg (fun (y0 : Int) => (.int .i64 y0 : Value)) hr0; exact hcc)
     ·simp only [bne_eq_false_iff_eq] at hc7
      have hln := hc7
      have hO := hI
      refine c_skip (q_then (c_seq (c_region ?_)))
      refine o_as rfl rfl ?_
      refine o_nil (q_then (c_block ?_))
      refine c_loop (St := Nat)
       (fun i => [(1, .pointer (some ⟨B1, 0, none⟩)), (3, Vi (r : Int)), (4, Vi (i : Int))])
       (fun i => [box B1 [Vi s.wide, .slice as_0 s.counts.length cs_0.n] 24, base w0])
       (fun i => i ≤ (s.counts.getD r []).length ∧ ∀ j, j < i → Sk.okN ((s.counts.getD r []).getD j default) = true)
       (fun i => (s.counts.getD r []).length - i)
       0 ?_ (sr (sr (sr (Sub.nil _)))) (fun _ hw => hw) ?_
      ·exact ⟨Nat.zero_le _, fun j h => absurd h (Nat.not_lt_zero j)⟩
      rintro i hI K hK8
      show SC _ _ Try.prog 53 w0 _ _ [(1, .pointer (some ⟨B1, 0, none⟩)), (3, Vi (r : Int)), (4, Vi (i : Int))] [box B1 [Vi s.wide, .slice as_0 s.counts.length cs_0.n] 24, base w0]
      refine c_seq (c_seq (c_region ?_))
      refine o_mv rfl rfl ?_
      refine o_p (p_fieldAddr (j' := 0) rfl fo24_0 rfl) ?_
      refine o_p (p_load (i := 0) (v := Vi s.wide) rfl rfl sh3 rfl) ?_
      refine o_p (p_lt rfl rfl) ?_
      refine o_nil (q_then ?_)
      refine c_cond rfl (fun hc9 => ?_) (fun hc9 => ?_)
      ·simp only [decide_eq_true_eq] at hc9
       refine c_skip (q_then (c_seq (c_block (c_seq (c_region ?_)))))
       refine o_p (p_fieldAddr (j' := 1) rfl fo24_1 rfl) ?_
       refine o_p (p_load (i := 0) (v := .slice as_0 s.counts.length cs_0.n) rfl rfl sh22 rfl) ?_
       refine o_mv rfl rfl ?_
       refine o_p (p_indexAddrN (T := tInt) (c := cs_0) (LL := s.counts) (i := (r : Int)) rfl rfl (rd_baseN (i := 1) rfl hs_0) Try.underlying22 sz37 (by first | omega | decide) (by first | omega | decide)) ?_
       refine o_p (p_loadN (T := tInt) (c := cs_0) (LL := s.counts) (i := r) rfl (rd_baseN (i := 1) rfl hs_0) (by first | assumption | omega | decide) sh37) ?_
       refine o_mv rfl rfl ?_
       refine o_p (p_indexAddr (L := (s.counts.getD r [])) (T := tInt) (i := (i : Int)) rfl rfl (rd_rowN (i := r) (rd_baseN (i := 1) rfl hs_0) (by first | assumption | omega)) Try.underlying37 sz3 (by omega) (by omega)) ?_
       refine o_p (p_loadE1 (i := i) (T := tInt) (L := (s.counts.getD r [])) (v := Vi ((s.counts.getD r []).getD i default)) rfl (rd_rowN (i := r) (rd_baseN (i := 1) rfl hs_0) (by first | assumption | omega)) (by first | assumption | omega) sh3 (congrArg tInt.enc (getd_at (by first | assumption | omega) default))) ?_
       refine o_call0 (v := .bool (Ref.between ((s.counts.getD r []).getD i default) (0 : Int) (1099511627776 : Int))) rfl (between_ok ((s.counts.getD r []).getD i default) (0 : Int) (1099511627776 : Int)) hf59 (fun _ _ => trivial) rfl ?_
       refine o_p (p_not (b := (Ref.between ((s.counts.getD r []).getD i default) (0 : Int) (1099511627776 : Int))) rfl) ?_
       refine o_nil (q_then ?_)
       refine c_cond rfl (fun hc10 => ?_) (fun hc10 => ?_)
       ·simp only [Bool.not_eq_true'] at hc10
        have hbt := hc10
        refine c_seq (c_region ?_)
        refine o_as rfl rfl ?_
        refine o_nil (q_then (c_ret ?_))
        refine q_block_ret (q_then_ret (q_then_ret (q_block_ret (q_block_ret (q_then_ret (q_then_ret (q_block_ret (q_then_ret ?_))))))))
        have hr0 : (3 : Int) = (Sk.check s) := by
         first | exact (Sk.ck1 (by omega)).symm | exact (Sk.ck2 (by omega)).symm | exact (Sk.ck3 (by omega) (by omega) (by simp [Ref.between] at hwd; omega)).symm | exact ((Sk.ck4 (by omega) (by omega) hwd (by omega) hO.2 (by rw [Sk.rowE1 hln]; decide)).trans (Sk.rowE1 hln)).symm | exact ((Sk.ck4 (by omega) (by omega) hwd (by omega) hO.2 (by rw [Sk.rowE3 hln (by omega) hbt]; decide)).trans (Sk.rowE3 hln (by omega) hbt)).symm | exact (Sk.ck5 (by omega) (by omega) hwd (k := r) (by omega) hI.2 (by assumption)).symm | exact (Sk.ck6 (by omega) (by omega) hwd (k := r) (by omega) hI.2 (by assumption)).symm
        refine q_end0 (v := Vi 3) (rt1 rfl (r_tmp rfl)) (i := 1) rfl ?_
        exact (by have hcc := congrArg (fun (y0 : Int) => (.int .i64 y0 : Value)) hr0; exact hcc)
       ·simp only [Bool.not_eq_false'] at hc10
        have hbt := hc10
        refine c_skip ?_
        refine q_block_normal (q_then ?_)
        refine c_region ?_
        refine o_mv rfl rfl ?_
        refine o_p (p_addb rfl rfl (by omega)) ?_
        refine o_as rfl rfl ?_
        refine o_nil ?_
        refine q_round hK8 (i + 1) ?_ ?_ ?_ ?_
        ·clear hK8
         exact ⟨by omega, Sk.ok_step hI.2 hbt⟩
        ·(try dsimp only); omega
        ·exact sr (sr (sr (Sub.nil _)))
        ·exact pk [0, 1]
      ·simp only [decide_eq_false_iff_not, Int.not_lt] at hc9
       refine c_exit ?_
       refine q_then_exit (q_then_exit (q_block_exit (q_block_normal (q_then ?_))))
       refine c_region ?_
       refine o_mv rfl rfl ?_
       refine o_p (p_addb rfl rfl (by omega)) ?_
       refine o_as rfl rfl ?_
       refine o_nil ?_
       refine q_round hK5 (r + 1) ?_ ?_ ?_ ?_
       ·clear hK5
        exact ⟨by omega, Sk.all_step hO.2 (Sk.rowE0 hln (by omega) hI.2)⟩
       ·(try dsimp only); omega
       ·exact sr (sr (Sub.nil _))
       ·exact pk [0, 1]
    ·simp only [decide_eq_false_iff_not, Int.not_lt] at hc6
     have hform := Sk.form_of (by omega) (by omega) hwd (k := r) (by omega) hI.2
     refine c_exit ?_
     refine q_then_exit (q_then_exit (q_block_exit (q_then ?_)))
     refine c_seq (c_seq (c_region ?_))
     refine o_p (p_fieldAddr (j' := 1) rfl fo24_1 rfl) ?_
     refine o_p (p_load (i := 0) (v := .slice as_0 s.counts.length cs_0.n) rfl rfl sh22 rfl) ?_
     refine o_call0 (v := .bool (Sk.even s.counts)) rfl (sketchEven_ok s.counts as_0 cs_0 (by first | assumption | exact hform.vals)) hf24 (fun w hw => (rd_baseN (i := 1) rfl hs_0) w hw) rfl ?_
     refine o_p (p_not (b := (Sk.even s.counts)) rfl) ?_
     refine o_nil (q_then ?_)
     refine c_cond rfl (fun hc11 => ?_) (fun hc11 => ?_)
     ·simp only [Bool.not_eq_true'] at hc11
      refine c_seq (c_region ?_)
      refine o_as rfl rfl ?_
      refine o_nil (q_then (c_ret ?_))
      refine q_then_ret ?_
      have hr0 : (4 : Int) = (Sk.check s) := by
       first | exact (Sk.ck1 (by omega)).symm | exact (Sk.ck2 (by omega)).symm | exact (Sk.ck3 (by omega) (by omega) (by simp [Ref.between] at hwd; omega)).symm | exact ((Sk.ck4 (by omega) (by omega) hwd (by omega) hO.2 (by rw [Sk.rowE1 hln]; decide)).trans (Sk.rowE1 hln)).symm | exact ((Sk.ck4 (by omega) (by omega) hwd (by omega) hO.2 (by rw [Sk.rowE3 hln (by omega) hbt]; decide)).trans (Sk.rowE3 hln (by omega) hbt)).symm | exact (Sk.ck5 (by omega) (by omega) hwd (k := r) (by omega) hI.2 (by assumption)).symm | exact (Sk.ck6 (by omega) (by omega) hwd (k := r) (by omega) hI.2 (by assumption)).symm
      refine q_end0 (v := Vi 4) (rt1 rfl (r_tmp rfl)) (i := 1) rfl ?_
      exact (by have hcc := congrArg (fun (y0 : Int) => (.int .i64 y0 : Value)) hr0; exact hcc)
     ·simp only [Bool.not_eq_false'] at hc11
      refine c_skip (q_then (c_seq (c_region ?_)))
      refine o_as rfl rfl ?_
      refine o_nil (q_then (c_ret ?_))
      have hr0 : (0 : Int) = (Sk.check s) := by
       first | exact (Sk.ck1 (by omega)).symm | exact (Sk.ck2 (by omega)).symm | exact (Sk.ck3 (by omega) (by omega) (by simp [Ref.between] at hwd; omega)).symm | exact ((Sk.ck4 (by omega) (by omega) hwd (by omega) hO.2 (by rw [Sk.rowE1 hln]; decide)).trans (Sk.rowE1 hln)).symm | exact ((Sk.ck4 (by omega) (by omega) hwd (by omega) hO.2 (by rw [Sk.rowE3 hln (by omega) hbt]; decide)).trans (Sk.rowE3 hln (by omega) hbt)).symm | exact (Sk.ck5 (by omega) (by omega) hwd (k := r) (by omega) hI.2 (by assumption)).symm | exact (Sk.ck6 (by omega) (by omega) hwd (k := r) (by omega) hI.2 (by assumption)).symm
      refine q_end0 (v := Vi 0) (rt1 rfl (r_tmp rfl)) (i := 1) rfl ?_
      exact (by have hcc := congrArg (fun (y0 : Int) => (.int .i64 y0 : Value)) hr0; exact hcc)

set_option maxHeartbeats 8000000 in
set_option maxRecDepth 100000 in
theorem sketchErr_ok (s : DSketch) (as_0 : Option Addr) (cs_0 : NC) (key : ByteArray) : Fn0 Try.prog 19 [.agg #[Vi s.wide, .slice as_0 s.counts.length cs_0.n], .string key] (fun w => RdN tInt w as_0 cs_0 s.counts) (Vi (Sk.keyErr s key)) := by
 refine fn0 (nt := 16) (F0 := [(0, .agg #[Vi s.wide, .slice as_0 s.counts.length cs_0.n]), (1, .string key)]) Try.func19 rfl Try.ntmps19 rfl rfl (fun w0 hpre => ?_)
 have hs_0 := hpre
 have hlhs_0 := hs_0.2.1
 refine c_seq (c_region ?_)
 refine o_box (v := .agg #[Vi s.wide, .slice as_0 s.counts.length cs_0.n]) rfl rfl (fun B1 => ?_)
 refine o_as rfl rfl ?_
 refine o_nil (q_then (c_seq (c_region ?_)))
 refine o_p (p_load_agg (i := 0) (vs := [Vi s.wide, .slice as_0 s.counts.length cs_0.n]) rfl rfl sh24 rfl rfl) ?_
 refine o_call0 (v := Vi (Sk.check s)) rfl (sketchCheck_ok s as_0 cs_0) hf18 (fun w hw => (rd_baseN (i := 1) rfl hs_0) w hw) rfl ?_
 refine o_as rfl rfl ?_
 refine o_nil (q_then (c_seq (c_seq (c_region ?_))))
 refine o_mv rfl rfl ?_
 refine o_p (p_eq rfl rfl) ?_
 refine o_mv rfl rfl ?_
 refine o_and (p := 14) 4 (decide (40 < (key.size : Int))) ?_ ?_ ?_
 ·intro hb2 hk
  simp only [beq_iff_eq] at hb2
  refine o_unguard 10 rfl rfl ?_
  refine o_mv rfl rfl ?_
  refine o_unguard 10 rfl rfl ?_
  refine o_p (p_len_string rfl rfl Try.underlying9) ?_
  refine o_unguard 10 rfl rfl ?_
  refine o_p (p_gt rfl rfl) ?_
  refine o_pt rfl rfl rfl ?_
  exact o_sub (sr (Sub.skip rfl (Sub.skip rfl (Sub.skip rfl (Sub.skip rfl (Sub.skip rfl (Sub.refl _))))))) hk
 ·intro hb2 hk
  refine o_guard_no rfl 10 rfl rfl rfl rfl rfl ?_
  refine o_guard_no rfl 10 rfl rfl rfl rfl rfl ?_
  refine o_guard_no rfl 10 rfl rfl rfl rfl rfl ?_
  refine o_pf rfl rfl rfl ?_
  exact o_sub (sr (Sub.skip rfl (Sub.skip rfl (Sub.skip rfl (Sub.skip rfl (Sub.skip rfl (Sub.refl _))))))) hk
 refine o_nil (q_then ?_)
 refine c_cond rfl (fun hc3 => ?_) (fun hc3 => ?_)
 ·simp only [Bool.and_eq_true, beq_iff_eq, decide_eq_true_eq] at hc3
  have hcc := hc3
  refine c_region ?_
  refine o_as rfl rfl ?_
  refine o_nil (q_then (c_seq (c_region ?_)))
  refine o_mv rfl rfl ?_
  refine o_as rfl rfl ?_
  refine o_nil (q_then (c_ret ?_))
  have hr0 : (2 : Int) = (Sk.keyErr s key) := by
   first | exact Sk.se1 hcc | exact Sk.se2 hcc
  refine q_end0 (v := Vi 2) (rt1 rfl (r_tmp rfl)) (i := 1) rfl ?_
  exact (by have hcc := congrArg (fun (y0 : Int) => (.int .i64 y0 : Value)) hr0; exact hcc)
 ·simp only [Bool.and_eq_false_iff, beq_eq_false_iff_ne, ne_eq, decide_eq_false_iff_not, Int.not_lt] at hc3
  have hcc := hc3
  refine c_skip (q_then (c_seq (c_region ?_)))
  refine o_mv rfl rfl ?_
  refine o_as rfl rfl ?_
  refine o_nil (q_then (c_ret ?_))
  have hr0 : ((Sk.check s) : Int) = (Sk.keyErr s key) := by
   first | exact Sk.se1 hcc | exact Sk.se2 hcc
  refine q_end0 (v := Vi (Sk.check s)) (rt1 rfl (r_tmp rfl)) (i := 1) rfl ?_
  exact (by have hcc := congrArg (fun (y0 : Int) => (.int .i64 y0 : Value)) hr0; exact hcc)

set_option maxHeartbeats 8000000 in
set_option maxRecDepth 100000 in
theorem sketchPlace_ok (key : ByteArray) (row : Int) (wide : Int) (hy1 : key.size ≤ 40) : Fn0 Try.prog 21 [.string key, Vi row, Vi wide] (fun _ => True) (Vi (Sk.place key row wide)) := by
 refine fn0 (nt := 15) (F0 := [(0, .string key), (1, Vi row), (2, Vi wide)]) Try.func21 rfl Try.ntmps21 rfl rfl (fun w0 hpre => ?_)
 refine c_seq (c_region ?_)
 refine o_as rfl rfl ?_
 refine o_nil (q_then (c_seq (c_region ?_)))
 refine o_mv rfl rfl ?_
 refine o_call0 (v := .int .u64 ((Hash.raw key).toNat : Int)) rfl (mixSum_ok key) hf62 (fun w hw => (by first | assumption | omega | decide | (rw [ByteArray.size_append]; omega) | simp)) rfl ?_
 refine o_mv rfl rfl ?_
 refine o_p (pu_conv (z := row) rfl Try.underlying3 Try.underlying100) ?_
 refine o_p (pu_xor (p := (Hash.raw key)) (q := (toU row)) rfl rfl) ?_
 refine o_call0 (v := .int .u64 ((Hash.mix ((Hash.raw key) ^^^ (toU row))).toNat : Int)) rfl (mixOf_ok ((Hash.raw key) ^^^ (toU row))) hf61 (fun _ _ => trivial) rfl ?_
 refine o_mv rfl rfl ?_
 refine o_call0 (v := Vi (Hash.rawFold (Hash.mix ((Hash.raw key) ^^^ (toU row))) wide)) rfl (mixFold_ok (Hash.mix ((Hash.raw key) ^^^ (toU row))) wide) hf60 (fun _ _ => trivial) rfl ?_
 refine o_as rfl rfl ?_
 refine o_nil (q_then (c_ret ?_))
 have hr0 : ((Hash.rawFold (Hash.mix ((Hash.raw key) ^^^ (toU row))) wide) : Int) = (Sk.place key row wide) := by
  exact Sk.place_eq hy1
 refine q_end0 (v := Vi (Hash.rawFold (Hash.mix ((Hash.raw key) ^^^ (toU row))) wide)) (rt1 rfl (r_tmp rfl)) (i := 0) rfl ?_
 exact (by have hcc := congrArg (fun (y0 : Int) => (.int .i64 y0 : Value)) hr0; exact hcc)

set_option maxHeartbeats 8000000 in
set_option maxRecDepth 100000 in
theorem sketchCopy_ok (s : DSketch) (as_0 : Option Addr) (cs_0 : NC) (hy1 : Sk.Form s) : FnM Try.prog 20 [.agg #[Vi s.wide, .slice as_0 s.counts.length cs_0.n]] (fun w => RdN tInt w as_0 cs_0 s.counts) (Option Addr × NC) (fun p => .agg #[Vi s.wide, .slice p.1 s.counts.length p.2.n]) (fun p S w => SlON tInt S w p.1 p.2 s.counts) := by
 refine fnM (nt := 28) (F0 := [(0, .agg #[Vi s.wide, .slice as_0 s.counts.length cs_0.n])]) Try.func20 rfl Try.ntmps20 rfl rfl (fun w0 hpre => ?_)
 have hs_0 := hpre
 have hlhs_0 := hs_0.2.1
 have hfew := hy1.few
 have hw2 := hy1.w2
 refine c_seq (c_region ?_)
 refine o_box (v := .agg #[Vi s.wide, .slice as_0 s.counts.length cs_0.n]) rfl rfl (fun B1 => ?_)
 refine o_alloc ze24 rfl (fun B2 => ?_)
 refine o_nil (q_then (c_seq (c_region ?_)))
 refine o_p (p_fieldAddr (j' := 0) rfl fo24_0 rfl) ?_
 refine o_p (p_load (i := 1) (v := Vi s.wide) rfl rfl sh3 rfl) ?_
 refine o_p (p_build (cells := [Vi s.wide, .slice none 0 0]) fp24 ze24 rfl rfl) ?_
 refine o_alloc ze24 rfl (fun B3 => ?_)
 refine o_storeN (i := 0) (vs := [Vi s.wide, .slice none 0 0]) (cs' := [Vi s.wide, .slice none 0 0]) rfl rfl rfl sz24 rfl rfl rfl rfl ?_
 refine o_nil (q_then (c_seq (c_seq (c_region ?_))))
 refine o_as rfl rfl ?_
 refine o_nil (q_then (c_block ?_))
 refine c_ownNilN tInt ?_
 refine c_loop (St := Nat × DSketch × Option Addr × NC × (Nat → Prop))
  (fun ⟨r, oo, aoo_0, coo_0, Soo_0⟩ => [(1, .pointer (some ⟨B1, 0, none⟩)), (2, .pointer (some ⟨B2, 0, none⟩)), (3, .pointer (some ⟨B3, 0, none⟩)), (4, Vi (r : Int))])
  (fun ⟨r, oo, aoo_0, coo_0, Soo_0⟩ => [ownN tInt Soo_0 aoo_0 coo_0 oo.counts, box B3 [Vi oo.wide, .slice aoo_0 oo.counts.length coo_0.n] 24, box B2 [Vi 0, .slice none 0 0] 24, box B1 [Vi s.wide, .slice as_0 s.counts.length cs_0.n] 24, base w0])
  (fun ⟨r, oo, aoo_0, coo_0, Soo_0⟩ => r ≤ s.counts.length ∧ oo = ⟨s.wide, s.counts.take r⟩)
  (fun ⟨r, oo, aoo_0, coo_0, Soo_0⟩ => s.counts.length - r)
  (0, (⟨s.wide, []⟩ : DSketch), none, nc0, (fun _ => False)) ?_ (sr (sr (sr (sr (Sub.nil _))))) (fun _ hw => hw) ?_
 ·exact ⟨Nat.zero_le _, rfl⟩
 rintro ⟨r, oo, aoo_0, coo_0, Soo_0⟩ hI K hK5
 have hol : oo.counts.length = r := by rw [hI.2]; simp; omega
 show SC _ _ Try.prog 28 w0 _ _ [(1, .pointer (some ⟨B1, 0, none⟩)), (2, .pointer (some ⟨B2, 0, none⟩)), (3, .pointer (some ⟨B3, 0, none⟩)), (4, Vi (r : Int))] [ownN tInt Soo_0 aoo_0 coo_0 oo.counts, box B3 [Vi oo.wide, .slice aoo_0 oo.counts.length coo_0.n] 24, box B2 [Vi 0, .slice none 0 0] 24, box B1 [Vi s.wide, .slice as_0 s.counts.length cs_0.n] 24, base w0]
 refine c_seq (c_seq (c_region ?_))
 refine o_mv rfl rfl ?_
 refine o_p (p_fieldAddr (j' := 1) rfl fo24_1 rfl) ?_
 refine o_p (p_load (i := 3) (v := .slice as_0 s.counts.length cs_0.n) rfl rfl sh22 rfl) ?_
 refine o_p (p_len_slice rfl rfl Try.underlying22) ?_
 refine o_p (p_lt rfl rfl) ?_
 refine o_nil (q_then ?_)
 refine c_cond rfl (fun hc6 => ?_) (fun hc6 => ?_)
 ·simp only [decide_eq_true_eq] at hc6
  have hrl := hy1.row_len (show r < s.counts.length by omega)
  refine c_skip (q_then (c_seq (c_block ?_)))
  refine c_cut (G := Option Addr × Nat × (Nat → Prop) × Option Addr × Option Addr × Nat × (Nat → Prop)) (fun ⟨a7_8, c7_8, S7_9, a7_9, a7_10, c7_10, S7_10⟩ => [(1, .pointer (some ⟨B1, 0, none⟩)), (2, .pointer (some ⟨B2, 0, none⟩)), (3, .pointer (some ⟨B3, 0, none⟩)), (4, Vi (r : Int))]) (fun ⟨a7_8, c7_8, S7_9, a7_9, a7_10, c7_10, S7_10⟩ => [ownN tInt S7_10 a7_10 (coo_0.push c7_10 oo.counts.length a7_8 c7_8) (oo.counts ++ [([] ++ (s.counts.getD r []))]), own tHdE S7_9 a7_9 ([(⟨a7_8, ([] ++ (s.counts.getD r [])).length, c7_8⟩ : HdE)].length) ([(⟨a7_8, ([] ++ (s.counts.getD r [])).length, c7_8⟩ : HdE)]), box B3 [Vi oo.wide, .slice a7_10 (oo.counts ++ [([] ++ (s.counts.getD r []))]).length (coo_0.push c7_10 oo.counts.length a7_8 c7_8).n] 24, box B2 [Vi 0, .slice none 0 0] 24, box B1 [Vi s.wide, .slice as_0 s.counts.length cs_0.n] 24, base w0]) (fun K hK8 => ?_) ?_
  ·refine c_held hmix [box B2 [Vi 0, .slice none 0 0] 24, box B1 [Vi s.wide, .slice as_0 s.counts.length cs_0.n] 24, base w0] rfl rfl ?_
   refine h_tk (i := 0) (ls := #[T1,F0,F0,F0,F0,F0,F0,F0,F0,F0,F0,F0,F0]) rfl (p_fieldAddr (j' := 1) rfl fo24_1 rfl) (dp (lz (lz (lj (lj (lj (ln))))))) ?_
   refine h_tk (i := 3) (ls := #[T1,F0,F0,T1,F0,F0,F0,F0,F0,F0,F0,F0,F0]) rfl (p_fieldAddr (j' := 1) rfl fo24_1 rfl) (dp (lz (lz (lj (lj (lj (ln))))))) ?_
   refine h_tk (i := 4) (ls := #[T1,F0,F0,T1,T1,F0,F0,F0,F0,F0,F0,F0,F0]) rfl (p_load (i := 1) (v := .slice as_0 s.counts.length cs_0.n) rfl rfl sh22 rfl) (dp (lz (lz (lj (lj (lj (ln))))))) ?_
   refine h_tk (i := 5) (ls := #[T1,F0,F0,T1,T1,T1,F0,F0,F0,F0,F0,F0,F0]) rfl (p_move rfl) (dp (lz (lz (lj (lj (lj (ln))))))) ?_
   refine h_tk (i := 6) (ls := #[T1,F0,F0,T1,T1,T1,T1,F0,F0,F0,F0,F0,F0]) rfl (p_indexAddrN (T := tInt) (c := cs_0) (LL := s.counts) (i := (r : Int)) rfl rfl (rd_baseN (i := 2) rfl hs_0) Try.underlying22 sz37 (by first | omega | decide) (by first | omega | decide)) (dp (lz (lz (lj (lj (lj (ln))))))) ?_
   refine h_tk (i := 7) (ls := #[T1,F0,F0,T1,T1,T1,T1,T1,F0,F0,F0,F0,F0]) rfl (p_loadN (T := tInt) (c := cs_0) (LL := s.counts) (i := r) rfl (rd_baseN (i := 2) rfl hs_0) (by first | assumption | omega | decide) sh37) (dp (lz (lz (lj (lj (lj (ln))))))) ?_
   refine h_two (i := 1) (j := 2) (ls := #[T1,T1,F0,T1,T1,T1,T1,T1,F0,F0,F0,F0,F0]) (ls' := #[T1,F0,T1,T1,T1,T1,T1,T1,F0,F0,F0,F0,F0]) (by kernel_rfl) rfl rfl rfl rfl ?_ ?_
   ·refine o_p (p_load (i := 1) (v := .slice aoo_0 oo.counts.length coo_0.n) rfl rfl sh22 rfl) ?_
    refine o_nil ?_
    refine h_next (dp (lz (lz (lj (lj (lj (ln))))))) ?_
    refine h_one (i := 2) (ls := #[T1,T1,T1,T1,T1,T1,T1,T1,F0,F0,F0,F0,F0]) (by kernel_rfl) rfl rfl ?_
    refine o_buildSlice (m := 0) (T := tInt) (L := []) (vs := []) rfl rfl rfl rfl Try.underlying37 sz3 (by decide) ze3 rfl (by decide) rfl (fun S7_2 a7_2 => ?_)
    refine o_nil ?_
    refine h_next (dp (lz (lz (lz (lj (lj (lj (ln)))))))) ?_
    refine h_one (i := 8) (ls := #[T1,T1,T1,T1,T1,T1,T1,T1,T1,F0,F0,F0,F0]) (by kernel_rfl) rfl rfl ?_
    refine o_append (i := 0) (L := []) (M := (s.counts.getD r [])) (T := tInt) rfl rfl rfl (rd_rowN (i := r) (rd_baseN (i := 5) rfl hs_0) (by first | assumption | omega)) Try.underlying37 Try.underlying37 (by intro k h; cases h) el3 (by intro z; simp [tInt, one1]) (by decide) (by first | omega | (simp only [List.length_cons, List.length_nil]; omega) | (simp only [List.length_append, List.length_cons, List.length_nil, List.length_take, List.length_drop]; omega)) rfl (fun a7_8 c7_8 S7_8 => ?_)
    refine o_nil ?_
    refine h_next (dp (lz (lz (lz (lj (lj (lj (ln)))))))) ?_
    refine h_one (i := 9) (ls := #[T1,T1,T1,T1,T1,T1,T1,T1,T1,T1,F0,F0,F0]) (by kernel_rfl) rfl rfl ?_
    refine o_buildSlice (m := 1) (T := tHdE) (L := [(⟨a7_8, ([] ++ (s.counts.getD r [])).length, c7_8⟩ : HdE)]) (vs := [.slice a7_8 ([] ++ (s.counts.getD r [])).length c7_8]) rfl rfl rfl rfl Try.underlying22 sz37 (by decide) ze37 rfl (by decide) rfl (fun S7_9 a7_9 => ?_)
    refine o_nil ?_
    refine h_next (dp (lz (lz (lz (lz (lj (lj (lj (ln))))))))) ?_
    refine h_one (i := 10) (ls := #[T1,T1,T1,T1,T1,T1,T1,T1,T1,T1,T1,F0,F0]) (by kernel_rfl) rfl rfl ?_
    refine o_pick (H' := [ownN tInt Soo_0 aoo_0 coo_0 oo.counts, own tInt S7_8 a7_8 c7_8 ([] ++ (s.counts.getD r [])), own tHdE S7_9 a7_9 ([(⟨a7_8, ([] ++ (s.counts.getD r [])).length, c7_8⟩ : HdE)].length) ([(⟨a7_8, ([] ++ (s.counts.getD r [])).length, c7_8⟩ : HdE)]), box B3 [Vi oo.wide, .slice aoo_0 oo.counts.length coo_0.n] 24, box B2 [Vi 0, .slice none 0 0] 24, box B1 [Vi s.wide, .slice as_0 s.counts.length cs_0.n] 24, base w0]) [2, 1, 0, 3, 4, 5, 6] (by decide) rfl ?_
    refine o_appendN (j := 0) (T := tInt) (c := coo_0) (LL := oo.counts) (L := ([] ++ (s.counts.getD r []))) rfl rfl rfl Try.underlying22 Try.underlying22 (by intro k h; cases h) el37 (by first | omega | (simp only [List.length_cons, List.length_nil]; omega) | (simp only [List.length_append, List.length_cons, List.length_nil, List.length_take, List.length_drop]; omega)) rfl (fun a7_10 c7_10 S7_10 => ?_)
    refine o_nil ?_
    refine h_next (dp (lz (lz (lz (lj (lj (lj (ln)))))))) ?_
    refine h_tk (i := 11) (ls := #[T1,T1,T1,T1,T1,T1,T1,T1,T1,T1,T1,T1,F0]) rfl (p_fieldAddr (j' := 1) rfl fo24_1 rfl) (dp (lz (lz (lz (lj (lj (lj (ln)))))))) ?_
    refine h_one (i := 12) (ls := #[T1,T1,T1,T1,T1,T1,T1,T1,T1,T1,T1,T1,T1]) (by kernel_rfl) rfl rfl ?_
    refine o_store (i := 2) (v := .slice a7_10 (oo.counts ++ [([] ++ (s.counts.getD r []))]).length (coo_0.push c7_10 oo.counts.length a7_8 c7_8).n) (cs' := [Vi oo.wide, .slice a7_10 (oo.counts ++ [([] ++ (s.counts.getD r []))]).length (coo_0.push c7_10 oo.counts.length a7_8 c7_8).n]) rfl rfl rfl sz22 rfl rfl rfl ?_
    refine o_nil ?_
    refine h_next (dp (lz (lz (lz (lj (lj (lj (ln)))))))) ?_
    refine h_done (by kernel_rfl) ?_
    refine q_kont hK8 (a7_8, c7_8, S7_9, a7_9, a7_10, c7_10, S7_10) (sr (sr (sr (sr (Sub.nil _))))) (pk [0, 1, 2, 3, 4, 5])
   ·refine o_buildSlice (m := 0) (T := tInt) (L := []) (vs := []) rfl rfl rfl rfl Try.underlying37 sz3 (by decide) ze3 rfl (by decide) rfl (fun S7_2 a7_2 => ?_)
    refine o_nil ?_
    refine h_next (dp (lz (lz (lz (lj (lj (lj (ln)))))))) ?_
    refine h_two (i := 1) (j := 8) (ls := #[T1,T1,T1,T1,T1,T1,T1,T1,F0,F0,F0,F0,F0]) (ls' := #[T1,F0,T1,T1,T1,T1,T1,T1,T1,F0,F0,F0,F0]) (by kernel_rfl) rfl rfl rfl rfl ?_ ?_
    ·refine o_p (p_load (i := 2) (v := .slice aoo_0 oo.counts.length coo_0.n) rfl rfl sh22 rfl) ?_
     refine o_nil ?_
     refine h_next (dp (lz (lz (lz (lj (lj (lj (ln)))))))) ?_
     refine h_one (i := 8) (ls := #[T1,T1,T1,T1,T1,T1,T1,T1,T1,F0,F0,F0,F0]) (by kernel_rfl) rfl rfl ?_
     refine o_append (i := 0) (L := []) (M := (s.counts.getD r [])) (T := tInt) rfl rfl rfl (rd_rowN (i := r) (rd_baseN (i := 5) rfl hs_0) (by first | assumption | omega)) Try.underlying37 Try.underlying37 (by intro k h; cases h) el3 (by intro z; simp [tInt, one1]) (by decide) (by first | omega | (simp only [List.length_cons, List.length_nil]; omega) | (simp only [List.length_append, List.length_cons, List.length_nil, List.length_take, List.length_drop]; omega)) rfl (fun a7_8 c7_8 S7_8 => ?_)
     refine o_nil ?_
     refine h_next (dp (lz (lz (lz (lj (lj (lj (ln)))))))) ?_
     refine h_one (i := 9) (ls := #[T1,T1,T1,T1,T1,T1,T1,T1,T1,T1,F0,F0,F0]) (by kernel_rfl) rfl rfl ?_
     refine o_buildSlice (m := 1) (T := tHdE) (L := [(⟨a7_8, ([] ++ (s.counts.getD r [])).length, c7_8⟩ : HdE)]) (vs := [.slice a7_8 ([] ++ (s.counts.getD r [])).length c7_8]) rfl rfl rfl rfl Try.underlying22 sz37 (by decide) ze37 rfl (by decide) rfl (fun S7_9 a7_9 => ?_)
     refine o_nil ?_
     refine h_next (dp (lz (lz (lz (lz (lj (lj (lj (ln))))))))) ?_
     refine h_one (i := 10) (ls := #[T1,T1,T1,T1,T1,T1,T1,T1,T1,T1,T1,F0,F0]) (by kernel_rfl) rfl rfl ?_
     refine o_pick (H' := [ownN tInt Soo_0 aoo_0 coo_0 oo.counts, own tInt S7_8 a7_8 c7_8 ([] ++ (s.counts.getD r [])), own tHdE S7_9 a7_9 ([(⟨a7_8, ([] ++ (s.counts.getD r [])).length, c7_8⟩ : HdE)].length) ([(⟨a7_8, ([] ++ (s.counts.getD r [])).length, c7_8⟩ : HdE)]), box B3 [Vi oo.wide, .slice aoo_0 oo.counts.length coo_0.n] 24, box B2 [Vi 0, .slice none 0 0] 24, box B1 [Vi s.wide, .slice as_0 s.counts.length cs_0.n] 24, base w0]) [2, 1, 0, 3, 4, 5, 6] (by decide) rfl ?_
     refine o_appendN (j := 0) (T := tInt) (c := coo_0) (LL := oo.counts) (L := ([] ++ (s.counts.getD r []))) rfl rfl rfl Try.underlying22 Try.underlying22 (by intro k h; cases h) el37 (by first | omega | (simp only [List.length_cons, List.length_nil]; omega) | (simp only [List.length_append, List.length_cons, List.length_nil, List.length_take, List.length_drop]; omega)) rfl (fun a7_10 c7_10 S7_10 => ?_)
     refine o_nil ?_
     refine h_next (dp (lz (lz (lz (lj (lj (lj (ln)))))))) ?_
     refine h_tk (i := 11) (ls := #[T1,T1,T1,T1,T1,T1,T1,T1,T1,T1,T1,T1,F0]) rfl (p_fieldAddr (j' := 1) rfl fo24_1 rfl) (dp (lz (lz (lz (lj (lj (lj (ln)))))))) ?_
     refine h_one (i := 12) (ls := #[T1,T1,T1,T1,T1,T1,T1,T1,T1,T1,T1,T1,T1]) (by kernel_rfl) rfl rfl ?_
     refine o_store (i := 2) (v := .slice a7_10 (oo.counts ++ [([] ++ (s.counts.getD r []))]).length (coo_0.push c7_10 oo.counts.length a7_8 c7_8).n) (cs' := [Vi oo.wide, .slice a7_10 (oo.counts ++ [([] ++ (s.counts.getD r []))]).length (coo_0.push c7_10 oo.counts.length a7_8 c7_8).n]) rfl rfl rfl sz22 rfl rfl rfl ?_
     refine o_nil ?_
     refine h_next (dp (lz (lz (lz (lj (lj (lj (ln)))))))) ?_
     refine h_done (by kernel_rfl) ?_
     refine q_kont hK8 (a7_8, c7_8, S7_9, a7_9, a7_10, c7_10, S7_10) (sr (sr (sr (sr (Sub.nil _))))) (pk [0, 1, 2, 3, 4, 5])
    ·refine o_append (i := 0) (L := []) (M := (s.counts.getD r [])) (T := tInt) rfl rfl rfl (rd_rowN (i := r) (rd_baseN (i := 5) rfl hs_0) (by first | assumption | omega)) Try.underlying37 Try.underlying37 (by intro k h; cases h) el3 (by intro z; simp [tInt, one1]) (by decide) (by first | omega | (simp only [List.length_cons, List.length_nil]; omega) | (simp only [List.length_append, List.length_cons, List.length_nil, List.length_take, List.length_drop]; omega)) rfl (fun a7_8 c7_8 S7_8 => ?_)
     refine o_nil ?_
     refine h_next (dp (lz (lz (lz (lj (lj (lj (ln)))))))) ?_
     refine h_two (i := 1) (j := 9) (ls := #[T1,T1,T1,T1,T1,T1,T1,T1,T1,F0,F0,F0,F0]) (ls' := #[T1,F0,T1,T1,T1,T1,T1,T1,T1,T1,F0,F0,F0]) (by kernel_rfl) rfl rfl rfl rfl ?_ ?_
     ·refine o_p (p_load (i := 2) (v := .slice aoo_0 oo.counts.length coo_0.n) rfl rfl sh22 rfl) ?_
      refine o_nil ?_
      refine h_next (dp (lz (lz (lz (lj (lj (lj (ln)))))))) ?_
      refine h_one (i := 9) (ls := #[T1,T1,T1,T1,T1,T1,T1,T1,T1,T1,F0,F0,F0]) (by kernel_rfl) rfl rfl ?_
      refine o_buildSlice (m := 1) (T := tHdE) (L := [(⟨a7_8, ([] ++ (s.counts.getD r [])).length, c7_8⟩ : HdE)]) (vs := [.slice a7_8 ([] ++ (s.counts.getD r [])).length c7_8]) rfl rfl rfl rfl Try.underlying22 sz37 (by decide) ze37 rfl (by decide) rfl (fun S7_9 a7_9 => ?_)
      refine o_nil ?_
      refine h_next (dp (lz (lz (lz (lz (lj (lj (lj (ln))))))))) ?_
      refine h_one (i := 10) (ls := #[T1,T1,T1,T1,T1,T1,T1,T1,T1,T1,T1,F0,F0]) (by kernel_rfl) rfl rfl ?_
      refine o_pick (H' := [ownN tInt Soo_0 aoo_0 coo_0 oo.counts, own tInt S7_8 a7_8 c7_8 ([] ++ (s.counts.getD r [])), own tHdE S7_9 a7_9 ([(⟨a7_8, ([] ++ (s.counts.getD r [])).length, c7_8⟩ : HdE)].length) ([(⟨a7_8, ([] ++ (s.counts.getD r [])).length, c7_8⟩ : HdE)]), box B3 [Vi oo.wide, .slice aoo_0 oo.counts.length coo_0.n] 24, box B2 [Vi 0, .slice none 0 0] 24, box B1 [Vi s.wide, .slice as_0 s.counts.length cs_0.n] 24, base w0]) [2, 1, 0, 3, 4, 5, 6] (by decide) rfl ?_
      refine o_appendN (j := 0) (T := tInt) (c := coo_0) (LL := oo.counts) (L := ([] ++ (s.counts.getD r []))) rfl rfl rfl Try.underlying22 Try.underlying22 (by intro k h; cases h) el37 (by first | omega | (simp only [List.length_cons, List.length_nil]; omega) | (simp only [List.length_append, List.length_cons, List.length_nil, List.length_take, List.length_drop]; omega)) rfl (fun a7_10 c7_10 S7_10 => ?_)
      refine o_nil ?_
      refine h_next (dp (lz (lz (lz (lj (lj (lj (ln)))))))) ?_
      refine h_tk (i := 11) (ls := #[T1,T1,T1,T1,T1,T1,T1,T1,T1,T1,T1,T1,F0]) rfl (p_fieldAddr (j' := 1) rfl fo24_1 rfl) (dp (lz (lz (lz (lj (lj (lj (ln)))))))) ?_
      refine h_one (i := 12) (ls := #[T1,T1,T1,T1,T1,T1,T1,T1,T1,T1,T1,T1,T1]) (by kernel_rfl) rfl rfl ?_
      refine o_store (i := 2) (v := .slice a7_10 (oo.counts ++ [([] ++ (s.counts.getD r []))]).length (coo_0.push c7_10 oo.counts.length a7_8 c7_8).n) (cs' := [Vi oo.wide, .slice a7_10 (oo.counts ++ [([] ++ (s.counts.getD r []))]).length (coo_0.push c7_10 oo.counts.length a7_8 c7_8).n]) rfl rfl rfl sz22 rfl rfl rfl ?_
      refine o_nil ?_
      refine h_next (dp (lz (lz (lz (lj (lj (lj (ln)))))))) ?_
      refine h_done (by kernel_rfl) ?_
      refine q_kont hK8 (a7_8, c7_8, S7_9, a7_9, a7_10, c7_10, S7_10) (sr (sr (sr (sr (Sub.nil _))))) (pk [0, 1, 2, 3, 4, 5])
     ·refine o_buildSlice (m := 1) (T := tHdE) (L := [(⟨a7_8, ([] ++ (s.counts.getD r [])).length, c7_8⟩ : HdE)]) (vs := [.slice a7_8 ([] ++ (s.counts.getD r [])).length c7_8]) rfl rfl rfl rfl Try.underlying22 sz37 (by decide) ze37 rfl (by decide) rfl (fun S7_9 a7_9 => ?_)
      refine o_nil ?_
      refine h_next (dp (lz (lz (lz (lz (lj (lj (lj (ln))))))))) ?_
      refine h_one (i := 1) (ls := #[T1,T1,T1,T1,T1,T1,T1,T1,T1,T1,F0,F0,F0]) (by kernel_rfl) rfl rfl ?_
      refine o_p (p_load (i := 3) (v := .slice aoo_0 oo.counts.length coo_0.n) rfl rfl sh22 rfl) ?_
      refine o_nil ?_
      refine h_next (dp (lz (lz (lz (lz (lj (lj (lj (ln))))))))) ?_
      refine h_one (i := 10) (ls := #[T1,T1,T1,T1,T1,T1,T1,T1,T1,T1,T1,F0,F0]) (by kernel_rfl) rfl rfl ?_
      refine o_pick (H' := [ownN tInt Soo_0 aoo_0 coo_0 oo.counts, own tInt S7_8 a7_8 c7_8 ([] ++ (s.counts.getD r [])), own tHdE S7_9 a7_9 ([(⟨a7_8, ([] ++ (s.counts.getD r [])).length, c7_8⟩ : HdE)].length) ([(⟨a7_8, ([] ++ (s.counts.getD r [])).length, c7_8⟩ : HdE)]), box B3 [Vi oo.wide, .slice aoo_0 oo.counts.length coo_0.n] 24, box B2 [Vi 0, .slice none 0 0] 24, box B1 [Vi s.wide, .slice as_0 s.counts.length cs_0.n] 24, base w0]) [2, 1, 0, 3, 4, 5, 6] (by decide) rfl ?_
      refine o_appendN (j := 0) (T := tInt) (c := coo_0) (LL := oo.counts) (L := ([] ++ (s.counts.getD r []))) rfl rfl rfl Try.underlying22 Try.underlying22 (by intro k h; cases h) el37 (by first | omega | (simp only [List.length_cons, List.length_nil]; omega) | (simp only [List.length_append, List.length_cons, List.length_nil, List.length_take, List.length_drop]; omega)) rfl (fun a7_10 c7_10 S7_10 => ?_)
      refine o_nil ?_
      refine h_next (dp (lz (lz (lz (lj (lj (lj (ln)))))))) ?_
      refine h_tk (i := 11) (ls := #[T1,T1,T1,T1,T1,T1,T1,T1,T1,T1,T1,T1,F0]) rfl (p_fieldAddr (j' := 1) rfl fo24_1 rfl) (dp (lz (lz (lz (lj (lj (lj (ln)))))))) ?_
      refine h_one (i := 12) (ls := #[T1,T1,T1,T1,T1,T1,T1,T1,T1,T1,T1,T1,T1]) (by kernel_rfl) rfl rfl ?_
      refine o_store (i := 2) (v := .slice a7_10 (oo.counts ++ [([] ++ (s.counts.getD r []))]).length (coo_0.push c7_10 oo.counts.length a7_8 c7_8).n) (cs' := [Vi oo.wide, .slice a7_10 (oo.counts ++ [([] ++ (s.counts.getD r []))]).length (coo_0.push c7_10 oo.counts.length a7_8 c7_8).n]) rfl rfl rfl sz22 rfl rfl rfl ?_
      refine o_nil ?_
      refine h_next (dp (lz (lz (lz (lj (lj (lj (ln)))))))) ?_
      refine h_done (by kernel_rfl) ?_
      refine q_kont hK8 (a7_8, c7_8, S7_9, a7_9, a7_10, c7_10, S7_10) (sr (sr (sr (sr (Sub.nil _))))) (pk [0, 1, 2, 3, 4, 5])
  rintro ⟨a7_8, c7_8, S7_9, a7_9, a7_10, c7_10, S7_10⟩
  show SQ _ 28 w0 _ _ [(1, .pointer (some ⟨B1, 0, none⟩)), (2, .pointer (some ⟨B2, 0, none⟩)), (3, .pointer (some ⟨B3, 0, none⟩)), (4, Vi (r : Int))] [ownN tInt S7_10 a7_10 (coo_0.push c7_10 oo.counts.length a7_8 c7_8) (oo.counts ++ [([] ++ (s.counts.getD r []))]), own tHdE S7_9 a7_9 ([(⟨a7_8, ([] ++ (s.counts.getD r [])).length, c7_8⟩ : HdE)].length) ([(⟨a7_8, ([] ++ (s.counts.getD r [])).length, c7_8⟩ : HdE)]), box B3 [Vi oo.wide, .slice a7_10 (oo.counts ++ [([] ++ (s.counts.getD r []))]).length (coo_0.push c7_10 oo.counts.length a7_8 c7_8).n] 24, box B2 [Vi 0, .slice none 0 0] 24, box B1 [Vi s.wide, .slice as_0 s.counts.length cs_0.n] 24, base w0]
  refine q_block_normal (q_then ?_)
  refine c_region ?_
  refine o_mv rfl rfl ?_
  refine o_p (p_addb rfl rfl (by omega)) ?_
  refine o_as rfl rfl ?_
  refine o_nil ?_
  refine q_round hK5 (r + 1, (⟨oo.wide, (oo.counts ++ [([] ++ (s.counts.getD r []))])⟩ : DSketch), a7_10, (coo_0.push c7_10 oo.counts.length a7_8 c7_8), S7_10) ?_ ?_ ?_ ?_
  ·clear hK5
   exact ⟨by omega, by rw [hI.2, Sk.take_next (by omega)]; rfl⟩
  ·(try dsimp only); omega
  ·exact sr (sr (sr (sr (Sub.nil _))))
  ·exact pk [0, 2, 3, 4, 5]
 ·simp only [decide_eq_false_iff_not, Int.not_lt] at hc6
  refine c_exit ?_
  refine q_then_exit (q_then_exit (q_block_exit (q_then ?_)))
  refine c_seq (c_region ?_)
  refine o_p (p_load_agg (i := 1) (vs := [Vi oo.wide, .slice aoo_0 oo.counts.length coo_0.n]) rfl rfl sh24 rfl rfl) ?_
  refine o_storeN (i := 2) (vs := [Vi oo.wide, .slice aoo_0 oo.counts.length coo_0.n]) (cs' := [Vi oo.wide, .slice aoo_0 oo.counts.length coo_0.n]) rfl rfl rfl sz24 rfl rfl rfl rfl ?_
  refine o_nil (q_then (c_ret ?_))
  have hr0 : (oo.wide : Int) = s.wide := by
   first | (rw [hI.2]; exact List.take_of_length_le (by omega)) | (rw [hI.2])
  have hr1 : (oo.counts : List (List Int)) = s.counts := by
   first | (rw [hI.2]; exact List.take_of_length_le (by omega)) | (rw [hI.2])
  refine q_endM (p := (aoo_0, coo_0)) Soo_0 (rt1 rfl (r_cell (i := 2) rfl rfl sh24 rfl)) (i := 4) rfl ?_ ?_ ?_
  ·exact (by have hcc := congr (congrArg (fun (y0 : Int) (y1 : List (List Int)) => (.agg #[.int .i64 y0, .slice aoo_0 y1.length coo_0.n] : Value)) hr0) hr1; exact hcc)
  ·exact fun w hw => hw.above (i := 4) (j := 0) (by decide) rfl rfl
  ·intro w hw; exact Eq.mp (congrArg (fun y => SlON tInt _ w aoo_0 coo_0 y) hr1) ((hw.at (i := 0) rfl).here)

set_option maxHeartbeats 8000000 in
set_option maxRecDepth 100000 in
theorem sketchFits_ok (s : DSketch) (as_0 : Option Addr) (cs_0 : NC) : Fn0 Try.prog 22 [.agg #[Vi s.wide, .slice as_0 s.counts.length cs_0.n]] (fun w => RdN tInt w as_0 cs_0 s.counts) (.bool (Sk.fits s.counts)) := by
 refine fn0 (nt := 31) (F0 := [(0, .agg #[Vi s.wide, .slice as_0 s.counts.length cs_0.n])]) Try.func22 rfl Try.ntmps22 rfl rfl (fun w0 hpre => ?_)
 have hs_0 := hpre
 have hlhs_0 := hs_0.2.1
 have hrr := rdN_lens hs_0
 refine c_seq (c_region ?_)
 refine o_box (v := .agg #[Vi s.wide, .slice as_0 s.counts.length cs_0.n]) rfl rfl (fun B1 => ?_)
 refine o_as rfl rfl ?_
 refine o_nil (q_then (c_seq (c_seq (c_region ?_))))
 refine o_as rfl rfl ?_
 refine o_nil (q_then (c_block ?_))
 refine c_loop (St := Nat)
  (fun r => [(1, .pointer (some ⟨B1, 0, none⟩)), (3, Vi (r : Int))])
  (fun r => [box B1 [Vi s.wide, .slice as_0 s.counts.length cs_0.n] 24, base w0])
  (fun r => r ≤ s.counts.length ∧ ∀ j, j < r → Sk.fitsRow (s.counts.getD j []) = true)
  (fun r => s.counts.length - r)
  0 ?_ (sr (sr (Sub.nil _))) (fun _ hw => hw) ?_
 ·exact ⟨Nat.zero_le _, fun j h => absurd h (Nat.not_lt_zero j)⟩
 rintro r hI K hK2
 show SC _ _ Try.prog 31 w0 _ _ [(1, .pointer (some ⟨B1, 0, none⟩)), (3, Vi (r : Int))] [box B1 [Vi s.wide, .slice as_0 s.counts.length cs_0.n] 24, base w0]
 refine c_seq (c_seq (c_region ?_))
 refine o_mv rfl rfl ?_
 refine o_p (p_fieldAddr (j' := 1) rfl fo24_1 rfl) ?_
 refine o_p (p_load (i := 0) (v := .slice as_0 s.counts.length cs_0.n) rfl rfl sh22 rfl) ?_
 refine o_p (p_len_slice rfl rfl Try.underlying22) ?_
 refine o_p (p_lt rfl rfl) ?_
 refine o_nil (q_then ?_)
 refine c_cond rfl (fun hc3 => ?_) (fun hc3 => ?_)
 ·simp only [decide_eq_true_eq] at hc3
  have hO := hI
  have hrq := hrr r
  refine c_skip (q_then (c_seq (c_block (c_seq (c_region ?_)))))
  refine o_as rfl rfl ?_
  refine o_nil (q_then (c_block ?_))
  refine c_loop (St := Nat)
   (fun i => [(1, .pointer (some ⟨B1, 0, none⟩)), (3, Vi (r : Int)), (4, Vi (i : Int))])
   (fun i => [box B1 [Vi s.wide, .slice as_0 s.counts.length cs_0.n] 24, base w0])
   (fun i => i ≤ (s.counts.getD r []).length ∧ ∀ j, j < i → Sk.fitN ((s.counts.getD r []).getD j default) = true)
   (fun i => (s.counts.getD r []).length - i)
   0 ?_ (sr (sr (sr (Sub.nil _)))) (fun _ hw => hw) ?_
  ·exact ⟨Nat.zero_le _, fun j h => absurd h (Nat.not_lt_zero j)⟩
  rintro i hI K hK4
  show SC _ _ Try.prog 31 w0 _ _ [(1, .pointer (some ⟨B1, 0, none⟩)), (3, Vi (r : Int)), (4, Vi (i : Int))] [box B1 [Vi s.wide, .slice as_0 s.counts.length cs_0.n] 24, base w0]
  refine c_seq (c_seq (c_region ?_))
  refine o_mv rfl rfl ?_
  refine o_p (p_fieldAddr (j' := 1) rfl fo24_1 rfl) ?_
  refine o_p (p_load (i := 0) (v := .slice as_0 s.counts.length cs_0.n) rfl rfl sh22 rfl) ?_
  refine o_mv rfl rfl ?_
  refine o_p (p_indexAddrN (T := tInt) (c := cs_0) (LL := s.counts) (i := (r : Int)) rfl rfl (rd_baseN (i := 1) rfl hs_0) Try.underlying22 sz37 (by first | omega | decide) (by first | omega | decide)) ?_
  refine o_p (p_loadN (T := tInt) (c := cs_0) (LL := s.counts) (i := r) rfl (rd_baseN (i := 1) rfl hs_0) (by first | assumption | omega | decide) sh37) ?_
  refine o_p (p_len_slice rfl rfl Try.underlying37) ?_
  refine o_p (p_lt rfl rfl) ?_
  refine o_nil (q_then ?_)
  refine c_cond rfl (fun hc5 => ?_) (fun hc5 => ?_)
  ·simp only [decide_eq_true_eq] at hc5
   refine c_skip (q_then (c_seq (c_block (c_seq (c_region ?_)))))
   refine o_p (p_fieldAddr (j' := 1) rfl fo24_1 rfl) ?_
   refine o_p (p_load (i := 0) (v := .slice as_0 s.counts.length cs_0.n) rfl rfl sh22 rfl) ?_
   refine o_mv rfl rfl ?_
   refine o_p (p_indexAddrN (T := tInt) (c := cs_0) (LL := s.counts) (i := (r : Int)) rfl rfl (rd_baseN (i := 1) rfl hs_0) Try.underlying22 sz37 (by first | omega | decide) (by first | omega | decide)) ?_
   refine o_p (p_loadN (T := tInt) (c := cs_0) (LL := s.counts) (i := r) rfl (rd_baseN (i := 1) rfl hs_0) (by first | assumption | omega | decide) sh37) ?_
   refine o_mv rfl rfl ?_
   refine o_p (p_indexAddr (L := (s.counts.getD r [])) (T := tInt) (i := (i : Int)) rfl rfl (rd_rowN (i := r) (rd_baseN (i := 1) rfl hs_0) (by first | assumption | omega)) Try.underlying37 sz3 (by omega) (by omega)) ?_
   refine o_p (p_loadE1 (i := i) (T := tInt) (L := (s.counts.getD r [])) (v := Vi ((s.counts.getD r []).getD i default)) rfl (rd_rowN (i := r) (rd_baseN (i := 1) rfl hs_0) (by first | assumption | omega)) (by first | assumption | omega) sh3 (congrArg tInt.enc (getd_at (by first | assumption | omega) default))) ?_
   refine o_p (p_gt rfl rfl) ?_
   refine o_nil (q_then ?_)
   refine c_cond rfl (fun hc6 => ?_) (fun hc6 => ?_)
   ·simp only [decide_eq_true_eq] at hc6
    have hbg := hc6
    refine c_seq (c_region ?_)
    refine o_as rfl rfl ?_
    refine o_nil (q_then (c_ret ?_))
    refine q_block_ret (q_then_ret (q_then_ret (q_block_ret (q_block_ret (q_then_ret (q_then_ret (q_block_ret (q_then_ret ?_))))))))
    have hr0 : (false : Bool) = (Sk.fits s.counts) := by
     first | exact (Sk.fits_no (by omega) (by omega) hbg).symm | exact (Sk.fits_yes (by omega) hI.2).symm
    refine q_end0 (v := .bool false) (rt1 rfl (r_tmp rfl)) (i := 1) rfl ?_
    exact (by have hcc := congrArg (fun (y0 : Bool) => (.bool y0 : Value)) hr0; exact hcc)
   ·simp only [decide_eq_false_iff_not, Int.not_lt] at hc6
    have hbg := hc6
    refine c_skip ?_
    refine q_block_normal (q_then ?_)
    refine c_region ?_
    refine o_mv rfl rfl ?_
    refine o_p (p_addb rfl rfl (by omega)) ?_
    refine o_as rfl rfl ?_
    refine o_nil ?_
    refine q_round hK4 (i + 1) ?_ ?_ ?_ ?_
    ·clear hK4
     exact ⟨by omega, Sk.ok_step hI.2 (decide_eq_true hbg)⟩
    ·(try dsimp only); omega
    ·exact sr (sr (sr (Sub.nil _)))
    ·exact pk [0, 1]
  ·simp only [decide_eq_false_iff_not, Int.not_lt] at hc5
   refine c_exit ?_
   refine q_then_exit (q_then_exit (q_block_exit (q_block_normal (q_then ?_))))
   refine c_region ?_
   refine o_mv rfl rfl ?_
   refine o_p (p_addb rfl rfl (by omega)) ?_
   refine o_as rfl rfl ?_
   refine o_nil ?_
   refine q_round hK2 (r + 1) ?_ ?_ ?_ ?_
   ·clear hK2
    exact ⟨by omega, Sk.fits_step hO.2 (Sk.fr_yes (by omega) hI.2)⟩
   ·(try dsimp only); omega
   ·exact sr (sr (Sub.nil _))
   ·exact pk [0, 1]
 ·simp only [decide_eq_false_iff_not, Int.not_lt] at hc3
  refine c_exit ?_
  refine q_then_exit (q_then_exit (q_block_exit (q_then ?_)))
  refine c_seq (c_region ?_)
  refine o_as rfl rfl ?_
  refine o_nil (q_then (c_ret ?_))
  have hr0 : (true : Bool) = (Sk.fits s.counts) := by
   first | exact (Sk.fits_no (by omega) (by omega) hbg).symm | exact (Sk.fits_yes (by omega) hI.2).symm
  refine q_end0 (v := .bool true) (rt1 rfl (r_tmp rfl)) (i := 1) rfl ?_
  exact (by have hcc := congrArg (fun (y0 : Bool) => (.bool y0 : Value)) hr0; exact hcc)

set_option maxHeartbeats 8000000 in
set_option maxRecDepth 100000 in
theorem sameSketch_ok (a : DSketch) (aa_0 : Option Addr) (ca_0 : NC) (b : DSketch) (ab_0 : Option Addr) (cb_0 : NC) : Fn0 Try.prog 27 [.agg #[Vi a.wide, .slice aa_0 a.counts.length ca_0.n], .agg #[Vi b.wide, .slice ab_0 b.counts.length cb_0.n]] (fun w => RdN tInt w aa_0 ca_0 a.counts ∧ RdN tInt w ab_0 cb_0 b.counts) (.bool (decide (a = b))) := by
 refine fn0 (nt := 39) (F0 := [(0, .agg #[Vi a.wide, .slice aa_0 a.counts.length ca_0.n]), (1, .agg #[Vi b.wide, .slice ab_0 b.counts.length cb_0.n])]) Try.func27 rfl Try.ntmps27 rfl rfl (fun w0 hpre => ?_)
 obtain ⟨ha_0, hb_0⟩ := hpre
 have hlha_0 := ha_0.2.1
 have hlhb_0 := hb_0.2.1
 refine c_seq (c_region ?_)
 refine o_box (v := .agg #[Vi a.wide, .slice aa_0 a.counts.length ca_0.n]) rfl rfl (fun B1 => ?_)
 refine o_box (v := .agg #[Vi b.wide, .slice ab_0 b.counts.length cb_0.n]) rfl rfl (fun B2 => ?_)
 refine o_as rfl rfl ?_
 refine o_nil (q_then (c_seq (c_seq (c_region ?_))))
 refine o_p (p_fieldAddr (j' := 0) rfl fo24_0 rfl) ?_
 refine o_p (p_load (i := 1) (v := Vi a.wide) rfl rfl sh3 rfl) ?_
 refine o_p (p_fieldAddr (j' := 0) rfl fo24_0 rfl) ?_
 refine o_p (p_load (i := 0) (v := Vi b.wide) rfl rfl sh3 rfl) ?_
 refine o_p (p_ne rfl rfl) ?_
 refine o_mv rfl rfl ?_
 refine o_or (p := 19) 8 ((a.counts.length : Int) != (b.counts.length : Int)) ?_ ?_ ?_
 ·intro hb3 hk
  simp only [bne_eq_false_iff_eq] at hb3
  refine o_unguard 11 rfl rfl ?_
  refine o_p (p_fieldAddr (j' := 1) rfl fo24_1 rfl) ?_
  refine o_unguard 11 rfl rfl ?_
  refine o_p (p_load (i := 1) (v := .slice aa_0 a.counts.length ca_0.n) rfl rfl sh22 rfl) ?_
  refine o_unguard 11 rfl rfl ?_
  refine o_p (p_len_slice rfl rfl Try.underlying22) ?_
  refine o_unguard 11 rfl rfl ?_
  refine o_p (p_fieldAddr (j' := 1) rfl fo24_1 rfl) ?_
  refine o_unguard 11 rfl rfl ?_
  refine o_p (p_load (i := 0) (v := .slice ab_0 b.counts.length cb_0.n) rfl rfl sh22 rfl) ?_
  refine o_unguard 11 rfl rfl ?_
  refine o_p (p_len_slice rfl rfl Try.underlying22) ?_
  refine o_unguard 11 rfl rfl ?_
  refine o_p (p_ne rfl rfl) ?_
  refine o_pf rfl rfl rfl ?_
  exact o_sub (sr (Sub.skip rfl (Sub.skip rfl (Sub.skip rfl (Sub.skip rfl (Sub.skip rfl (Sub.skip rfl (Sub.skip rfl (Sub.skip rfl (Sub.skip rfl (Sub.refl _))))))))))) hk
 ·intro hb3 hk
  refine o_guard_no rfl 11 rfl rfl rfl rfl rfl ?_
  refine o_guard_no rfl 11 rfl rfl rfl rfl rfl ?_
  refine o_guard_no rfl 11 rfl rfl rfl rfl rfl ?_
  refine o_guard_no rfl 11 rfl rfl rfl rfl rfl ?_
  refine o_guard_no rfl 11 rfl rfl rfl rfl rfl ?_
  refine o_guard_no rfl 11 rfl rfl rfl rfl rfl ?_
  refine o_guard_no rfl 11 rfl rfl rfl rfl rfl ?_
  refine o_pt rfl rfl rfl ?_
  exact o_sub (sr (Sub.skip rfl (Sub.skip rfl (Sub.skip rfl (Sub.skip rfl (Sub.skip rfl (Sub.skip rfl (Sub.skip rfl (Sub.skip rfl (Sub.skip rfl (Sub.refl _))))))))))) hk
 refine o_nil (q_then ?_)
 refine c_cond rfl (fun hc4 => ?_) (fun hc4 => ?_)
 ·simp only [Bool.or_eq_true, bne_iff_ne, ne_eq] at hc4
  have hne := hc4
  refine c_seq (c_region ?_)
  refine o_as rfl rfl ?_
  refine o_nil (q_then (c_ret ?_))
  refine q_then_ret ?_
  have hr0 : (false : Bool) = (decide (a = b)) := by
   first | exact Sk.same_no0 hne | exact Sk.same_no1 (r := r) (by simpa [Ref.sameInts] using hrw) | exact Sk.same_yes hne (by omega) hI.2
  refine q_end0 (v := .bool false) (rt1 rfl (r_tmp rfl)) (i := 2) rfl ?_
  exact (by have hcc := congrArg (fun (y0 : Bool) => (.bool y0 : Value)) hr0; exact hcc)
 ·simp only [Bool.or_eq_false_iff, bne_eq_false_iff_eq] at hc4
  have hne := hc4
  refine c_skip (q_then (c_seq (c_seq (c_region ?_))))
  refine o_as rfl rfl ?_
  refine o_nil (q_then (c_block ?_))
  refine c_loop (St := Nat)
   (fun r => [(2, .pointer (some ⟨B1, 0, none⟩)), (3, .pointer (some ⟨B2, 0, none⟩)), (5, Vi (r : Int))])
   (fun r => [box B2 [Vi b.wide, .slice ab_0 b.counts.length cb_0.n] 24, box B1 [Vi a.wide, .slice aa_0 a.counts.length ca_0.n] 24, base w0])
   (fun r => r ≤ a.counts.length ∧ ∀ j, j < r → a.counts.getD j [] = b.counts.getD j [])
   (fun r => a.counts.length - r)
   0 ?_ (sr (sr (sr (Sub.nil _)))) (fun _ hw => hw) ?_
  ·exact ⟨Nat.zero_le _, fun j h => absurd h (Nat.not_lt_zero j)⟩
  rintro r hI K hK5
  show SC _ _ Try.prog 39 w0 _ _ [(2, .pointer (some ⟨B1, 0, none⟩)), (3, .pointer (some ⟨B2, 0, none⟩)), (5, Vi (r : Int))] [box B2 [Vi b.wide, .slice ab_0 b.counts.length cb_0.n] 24, box B1 [Vi a.wide, .slice aa_0 a.counts.length ca_0.n] 24, base w0]
  refine c_seq (c_seq (c_region ?_))
  refine o_mv rfl rfl ?_
  refine o_p (p_fieldAddr (j' := 1) rfl fo24_1 rfl) ?_
  refine o_p (p_load (i := 1) (v := .slice aa_0 a.counts.length ca_0.n) rfl rfl sh22 rfl) ?_
  refine o_p (p_len_slice rfl rfl Try.underlying22) ?_
  refine o_p (p_lt rfl rfl) ?_
  refine o_nil (q_then ?_)
  refine c_cond rfl (fun hc6 => ?_) (fun hc6 => ?_)
  ·simp only [decide_eq_true_eq] at hc6
   refine c_skip (q_then (c_seq (c_block (c_seq ?_))))
   refine c_draw hmix (by kernel_rfl) ?_
   refine w_p (p_fieldAddr (j' := 1) rfl fo24_1 rfl) ?_
   refine w_p (p_load (i := 1) (v := .slice aa_0 a.counts.length ca_0.n) rfl rfl sh22 rfl) ?_
   refine w_mv rfl rfl ?_
   refine w_p (p_indexAddrN (T := tInt) (c := ca_0) (LL := a.counts) (i := (r : Int)) rfl rfl (rd_baseN (i := 2) rfl ha_0) Try.underlying22 sz37 (by first | omega | decide) (by first | omega | decide)) ?_
   refine w_p (p_loadN (T := tInt) (c := ca_0) (LL := a.counts) (i := r) rfl (rd_baseN (i := 2) rfl ha_0) (by first | assumption | omega | decide) sh37) ?_
   refine w_p (p_fieldAddr (j' := 1) rfl fo24_1 rfl) ?_
   refine w_p (p_load (i := 0) (v := .slice ab_0 b.counts.length cb_0.n) rfl rfl sh22 rfl) ?_
   refine w_mv rfl rfl ?_
   refine w_p (p_indexAddrN (T := tInt) (c := cb_0) (LL := b.counts) (i := (r : Int)) rfl rfl (rd_baseN (i := 2) rfl hb_0) Try.underlying22 sz37 (by first | omega | decide) (by first | omega | decide)) ?_
   refine w_p (p_loadN (T := tInt) (c := cb_0) (LL := b.counts) (i := r) rfl (rd_baseN (i := 2) rfl hb_0) (by first | assumption | omega | decide) sh37) ?_
   refine w_call0 (v := .bool (Ref.sameInts (a.counts.getD r []) (b.counts.getD r []))) rfl (sameInts_ok (a.counts.getD r []) (ca_0.ra r) (ca_0.rc r) (b.counts.getD r []) (cb_0.ra r) (cb_0.rc r)) hf64 (fun w hw => ⟨(rd_rowN (i := r) (rd_baseN (i := 2) rfl ha_0) (by first | assumption | omega)) w hw, (rd_rowN (i := r) (rd_baseN (i := 2) rfl hb_0) (by first | assumption | omega)) w hw⟩) rfl ?_
   refine w_p (p_not (b := (Ref.sameInts (a.counts.getD r []) (b.counts.getD r []))) rfl) ?_
   refine w_nil (q_then ?_)
   refine c_cond rfl (fun hc7 => ?_) (fun hc7 => ?_)
   ·simp only [Bool.not_eq_true'] at hc7
    have hrw := hc7
    refine c_seq (c_region ?_)
    refine o_as rfl rfl ?_
    refine o_nil (q_then (c_ret ?_))
    refine q_block_ret (q_then_ret (q_then_ret (q_block_ret (q_then_ret ?_))))
    have hr0 : (false : Bool) = (decide (a = b)) := by
     first | exact Sk.same_no0 hne | exact Sk.same_no1 (r := r) (by simpa [Ref.sameInts] using hrw) | exact Sk.same_yes hne (by omega) hI.2
    refine q_end0 (v := .bool false) (rt1 rfl (r_tmp rfl)) (i := 2) rfl ?_
    exact (by have hcc := congrArg (fun (y0 : Bool) => (.bool y0 : Value)) hr0; exact hcc)
   ·simp only [Bool.not_eq_false'] at hc7
    have hrw := hc7
    refine c_skip ?_
    refine q_block_normal (q_then ?_)
    refine c_region ?_
    refine o_mv rfl rfl ?_
    refine o_p (p_addb rfl rfl (by omega)) ?_
    refine o_as rfl rfl ?_
    refine o_nil ?_
    refine q_round hK5 (r + 1) ?_ ?_ ?_ ?_
    ·clear hK5
     exact ⟨by omega, Sk.same_step hI.2 (by simpa [Ref.sameInts] using hrw)⟩
    ·(try dsimp only); omega
    ·exact sr (sr (sr (Sub.nil _)))
    ·exact pk [0, 1, 2]
  ·simp only [decide_eq_false_iff_not, Int.not_lt] at hc6
   refine c_exit ?_
   refine q_then_exit (q_then_exit (q_block_exit (q_then ?_)))
   refine c_seq (c_region ?_)
   refine o_as rfl rfl ?_
   refine o_nil (q_then (c_ret ?_))
   have hr0 : (true : Bool) = (decide (a = b)) := by
    first | exact Sk.same_no0 hne | exact Sk.same_no1 (r := r) (by simpa [Ref.sameInts] using hrw) | exact Sk.same_yes hne (by omega) hI.2
   refine q_end0 (v := .bool true) (rt1 rfl (r_tmp rfl)) (i := 2) rfl ?_
   exact (by have hcc := congrArg (fun (y0 : Bool) => (.bool y0 : Value)) hr0; exact hcc)
end Go.Proofs.Ytnmbkopnopaigaa
