/- The walks, printed by a program from the translation and a specification. -/
import Derived.Test.YthecfjipaepcgaaShF
import Derived.Test.YthecfjipaepcgaaShLaw
namespace Go.Proofs.Ythecfjipaepcgaa
open Go.Sx Go.RowKit
set_option maxHeartbeats 8000000 in
set_option maxRecDepth 100000 in
theorem mix_ok (n : UInt64) : Fn0 Try.prog 92 [.int .u64 (n.toNat : Int)] (fun _ => True) (.int .u64 ((Hash.mix n).toNat : Int)) := by
  refine fn0 (nt := 17) (F0 := [(0, .int .u64 (n.toNat : Int))]) Try.func92 rfl Try.ntmps92 rfl rfl (fun w0 hpre => ?_)
  refine c_seq ?_
  refine c_region ?_
  refine o_pure (p_assign (v := .int .u64 ((0 : UInt64).toNat : Int)) rfl) rfl rfl rfl ?_
  refine o_nil ?_
  refine q_then ?_
  refine c_seq ?_
  refine c_region ?_
  refine o_pure (p_move (v := .int .u64 (n.toNat : Int)) rfl) rfl rfl rfl ?_
  refine o_pure (p_move (v := .int .u64 (n.toNat : Int)) rfl) rfl rfl rfl ?_
  refine o_pure (pu_shr (p := n) (m := 30) rfl rfl (by decide)) rfl rfl rfl ?_
  refine o_pure (pu_xor (p := n) (q := (shrU n 30)) rfl rfl) rfl rfl rfl ?_
  refine o_pure (pu_mul (p := (n ^^^ (shrU n 30))) (q := (13787848793156543929 : UInt64)) rfl rfl) rfl rfl rfl ?_
  refine o_pure (p_assign (v := .int .u64 (((n ^^^ (shrU n 30)) * (13787848793156543929 : UInt64)).toNat : Int)) rfl) rfl rfl rfl ?_
  refine o_nil ?_
  refine q_then ?_
  refine c_seq ?_
  refine c_region ?_
  refine o_pure (p_move (v := .int .u64 (((n ^^^ (shrU n 30)) * (13787848793156543929 : UInt64)).toNat : Int)) rfl) rfl rfl rfl ?_
  refine o_pure (p_move (v := .int .u64 (((n ^^^ (shrU n 30)) * (13787848793156543929 : UInt64)).toNat : Int)) rfl) rfl rfl rfl ?_
  refine o_pure (pu_shr (p := ((n ^^^ (shrU n 30)) * (13787848793156543929 : UInt64))) (m := 27) rfl rfl (by decide)) rfl rfl rfl ?_
  refine o_pure (pu_xor (p := ((n ^^^ (shrU n 30)) * (13787848793156543929 : UInt64))) (q := (shrU ((n ^^^ (shrU n 30)) * (13787848793156543929 : UInt64)) 27)) rfl rfl) rfl rfl rfl ?_
  refine o_pure (pu_mul (p := (((n ^^^ (shrU n 30)) * (13787848793156543929 : UInt64)) ^^^ (shrU ((n ^^^ (shrU n 30)) * (13787848793156543929 : UInt64)) 27))) (q := (10723151780598845931 : UInt64)) rfl rfl) rfl rfl rfl ?_
  refine o_pure (p_assign (v := .int .u64 (((((n ^^^ (shrU n 30)) * (13787848793156543929 : UInt64)) ^^^ (shrU ((n ^^^ (shrU n 30)) * (13787848793156543929 : UInt64)) 27)) * (10723151780598845931 : UInt64)).toNat : Int)) rfl) rfl rfl rfl ?_
  refine o_nil ?_
  refine q_then ?_
  refine c_seq ?_
  refine c_region ?_
  refine o_pure (p_move (v := .int .u64 (((((n ^^^ (shrU n 30)) * (13787848793156543929 : UInt64)) ^^^ (shrU ((n ^^^ (shrU n 30)) * (13787848793156543929 : UInt64)) 27)) * (10723151780598845931 : UInt64)).toNat : Int)) rfl) rfl rfl rfl ?_
  refine o_pure (p_move (v := .int .u64 (((((n ^^^ (shrU n 30)) * (13787848793156543929 : UInt64)) ^^^ (shrU ((n ^^^ (shrU n 30)) * (13787848793156543929 : UInt64)) 27)) * (10723151780598845931 : UInt64)).toNat : Int)) rfl) rfl rfl rfl ?_
  refine o_pure (pu_shr (p := ((((n ^^^ (shrU n 30)) * (13787848793156543929 : UInt64)) ^^^ (shrU ((n ^^^ (shrU n 30)) * (13787848793156543929 : UInt64)) 27)) * (10723151780598845931 : UInt64))) (m := 31) rfl rfl (by decide)) rfl rfl rfl ?_
  refine o_pure (pu_xor (p := ((((n ^^^ (shrU n 30)) * (13787848793156543929 : UInt64)) ^^^ (shrU ((n ^^^ (shrU n 30)) * (13787848793156543929 : UInt64)) 27)) * (10723151780598845931 : UInt64))) (q := (shrU ((((n ^^^ (shrU n 30)) * (13787848793156543929 : UInt64)) ^^^ (shrU ((n ^^^ (shrU n 30)) * (13787848793156543929 : UInt64)) 27)) * (10723151780598845931 : UInt64)) 31)) rfl rfl) rfl rfl rfl ?_
  refine o_pure (p_assign (v := .int .u64 ((((((n ^^^ (shrU n 30)) * (13787848793156543929 : UInt64)) ^^^ (shrU ((n ^^^ (shrU n 30)) * (13787848793156543929 : UInt64)) 27)) * (10723151780598845931 : UInt64)) ^^^ (shrU ((((n ^^^ (shrU n 30)) * (13787848793156543929 : UInt64)) ^^^ (shrU ((n ^^^ (shrU n 30)) * (13787848793156543929 : UInt64)) 27)) * (10723151780598845931 : UInt64)) 31)).toNat : Int)) rfl) rfl rfl rfl ?_
  refine o_nil ?_
  refine q_then ?_
  refine c_ret ?_
  refine q_end0 (v := .int .u64 ((((((n ^^^ (shrU n 30)) * (13787848793156543929 : UInt64)) ^^^ (shrU ((n ^^^ (shrU n 30)) * (13787848793156543929 : UInt64)) 27)) * (10723151780598845931 : UInt64)) ^^^ (shrU ((((n ^^^ (shrU n 30)) * (13787848793156543929 : UInt64)) ^^^ (shrU ((n ^^^ (shrU n 30)) * (13787848793156543929 : UInt64)) 27)) * (10723151780598845931 : UInt64)) 31)).toNat : Int)) (rt1 rfl (r_tmp rfl)) (i := 0) rfl ?_
  rfl

set_option maxHeartbeats 8000000 in
set_option maxRecDepth 100000 in
theorem raw_ok (s : ByteArray) : Fn0 Try.prog 72 [.string s] (fun w => s.size ≤ 9223372036854775807) (.int .u64 ((Hash.raw s).toNat : Int)) := by
  refine fn0 (nt := 19) (F0 := [(0, .string s)]) Try.func72 rfl Try.ntmps72 rfl rfl (fun w0 hpre => ?_)
  have hs := hpre
  refine c_seq ?_
  refine c_region ?_
  refine o_pure (p_assign (v := .int .u64 ((0 : UInt64).toNat : Int)) rfl) rfl rfl rfl ?_
  refine o_nil ?_
  refine q_then ?_
  refine c_seq ?_
  refine c_region ?_
  refine o_pure (p_assign (v := .int .u64 ((14695981039346656037 : UInt64).toNat : Int)) rfl) rfl rfl rfl ?_
  refine o_nil ?_
  refine q_then ?_
  refine c_seq ?_
  refine c_seq ?_
  refine c_region ?_
  refine o_pure (p_move (v := .string s) rfl) rfl rfl rfl ?_
  refine o_pure (p_len_string rfl rfl Try.underlying9) rfl rfl rfl ?_
  refine o_pure (p_move (v := .int .i64 0) rfl) rfl rfl rfl ?_
  refine o_nil ?_
  refine q_then ?_
  refine c_block ?_
  refine c_loop (St := UInt64 × Nat)
    (fun ⟨n, k⟩ => [(0, .string s), (3, .int .u64 (n.toNat : Int)), (6, .int .i64 (s.size : Int)), (7, .int .i64 (k : Int))])
    (fun ⟨n, k⟩ => [base w0])
    (fun ⟨n, k⟩ => k ≤ s.size ∧ n = Hash.rawTo s k)
    (fun ⟨n, k⟩ => s.size - k)
    ((14695981039346656037 : UInt64), 0) ?_ (Sub.cons rfl (Sub.cons rfl (Sub.cons rfl (Sub.cons rfl (Sub.nil _))))) (fun _ hw => hw) ?_
  · exact ⟨Nat.zero_le _, rfl⟩
  rintro ⟨n, k⟩ hI K hK1
  obtain ⟨hk, ho⟩ := hI
  show SC _ _ Try.prog 19 w0 _ _ [(0, .string s), (3, .int .u64 (n.toNat : Int)), (6, .int .i64 (s.size : Int)), (7, .int .i64 (k : Int))] [base w0]
  refine c_seq ?_
  refine c_region ?_
  refine o_pure (p_lt (p := (k : Int)) (q := (s.size : Int)) rfl rfl) rfl rfl rfl ?_
  refine o_nil ?_
  refine q_then ?_
  refine c_seq ?_
  refine c_cond (b := decide ((k : Int) < (s.size : Int))) rfl (fun hc2 => ?_) (fun hc2 => ?_)
  · simp only [decide_eq_true_eq] at hc2
    refine c_skip ?_
    refine q_then ?_
    refine c_seq ?_
    refine c_block ?_
    refine c_seq ?_
    refine c_region ?_
    refine o_pure (p_move (v := .int .i64 (k : Int)) rfl) rfl rfl rfl ?_
    refine o_pure (p_assign (v := .int .i64 (k : Int)) rfl) rfl rfl rfl ?_
    refine o_nil ?_
    refine q_then ?_
    refine c_region ?_
    refine o_pure (p_move (v := .int .u64 (n.toNat : Int)) rfl) rfl rfl rfl ?_
    refine o_pure (p_move (v := .string s) rfl) rfl rfl rfl ?_
    refine o_pure (p_move (v := .int .i64 (k : Int)) rfl) rfl rfl rfl ?_
    refine o_pure (p_indexStr (z := (k : Int)) (i := k) rfl rfl Try.underlying9 (by omega) (by omega)) rfl rfl rfl ?_
    refine o_pure (pu_convB (c := (byteAt s k)) rfl Try.underlying5 Try.underlying59) rfl rfl rfl ?_
    refine o_pure (pu_xor (p := n) (q := (byteAt s k).toUInt64) rfl rfl) rfl rfl rfl ?_
    refine o_pure (pu_mul (p := (n ^^^ (byteAt s k).toUInt64)) (q := (1099511628211 : UInt64)) rfl rfl) rfl rfl rfl ?_
    refine o_pure (p_assign (v := .int .u64 (((n ^^^ (byteAt s k).toUInt64) * (1099511628211 : UInt64)).toNat : Int)) rfl) rfl rfl rfl ?_
    refine o_nil ?_
    refine q_block_normal (q_then ?_)
    refine c_region ?_
    refine o_pure (p_addb (p := (k : Int)) (q := 1) rfl rfl (by omega)) rfl rfl rfl ?_
    refine o_pure (p_move (v := .int .i64 ((k : Int) + 1)) rfl) rfl rfl rfl ?_
    refine o_nil ?_
    refine q_round hK1 (((n ^^^ (byteAt s k).toUInt64) * (1099511628211 : UInt64)), k + 1) ?_ ?_ ?_ ?_
    · clear hK1
      exact ⟨by omega, by rw [ho]; rfl⟩
    · (try dsimp only); omega
    · exact Sub.cons rfl (Sub.cons rfl (Sub.cons rfl (Sub.cons rfl (Sub.nil _))))
    · exact fun _ hw => HeapIs.pick hw [0] (by decide) rfl
  · simp only [decide_eq_false_iff_not, Int.not_lt] at hc2
    refine c_exit ?_
    refine q_then_exit (q_then_exit (q_block_exit (q_then ?_)))
    refine c_seq ?_
    refine c_region ?_
    refine o_pure (p_move (v := .int .u64 (n.toNat : Int)) rfl) rfl rfl rfl ?_
    refine o_pure (p_assign (v := .int .u64 (n.toNat : Int)) rfl) rfl rfl rfl ?_
    refine o_nil ?_
    refine q_then ?_
    refine c_ret ?_
    refine q_end0 (v := .int .u64 (n.toNat : Int)) (rt1 rfl (r_tmp rfl)) (i := 0) rfl ?_
    rw [show n = Hash.raw s by unfold Hash.raw; rw [ho]; congr 1; omega]

set_option maxHeartbeats 8000000 in
set_option maxRecDepth 100000 in
theorem isNaNU_ok (x : UInt64) : Fn0 Try.prog 114 [.int .u64 (x.toNat : Int)] (fun _ => True) (.bool false) := by
  refine fn0 (nt := 6) (F0 := [(0, .int .u64 (x.toNat : Int))]) Try.func114 rfl Try.ntmps114 rfl rfl (fun w0 hpre => ?_)
  refine c_seq ?_
  refine c_region ?_
  refine o_pure (p_assign (v := .bool false) rfl) rfl rfl rfl ?_
  refine o_nil ?_
  refine q_then ?_
  refine c_seq ?_
  refine c_region ?_
  refine o_pure (p_move (v := .int .u64 (x.toNat : Int)) rfl) rfl rfl rfl ?_
  refine o_pure (p_move (v := .int .u64 (x.toNat : Int)) rfl) rfl rfl rfl ?_
  refine o_pure (pu_ne (p := x) (q := x) rfl rfl) rfl rfl rfl ?_
  refine o_pure (p_assign (v := .bool (x != x)) rfl) rfl rfl rfl ?_
  refine o_nil ?_
  refine q_then ?_
  refine c_ret ?_
  have hr0 : ((x != x) : Bool) = false := by
    exact u64_irr x
  refine q_end0 (v := .bool (x != x)) (rt1 rfl (r_tmp rfl)) (i := 0) rfl ?_
  exact (by have hcc := congrArg (fun (y0 : Bool) => (.bool y0 : Value)) hr0; exact hcc)

set_option maxHeartbeats 8000000 in
set_option maxRecDepth 100000 in
theorem compareU_ok (x : UInt64) (y : UInt64) : Fn0 Try.prog 97 [.int .u64 (x.toNat : Int), .int .u64 (y.toNat : Int)] (fun _ => True) (.int .i64 (cmpU x y)) := by
  refine fn0 (nt := 20) (F0 := [(0, .int .u64 (x.toNat : Int)), (1, .int .u64 (y.toNat : Int))]) Try.func97 rfl Try.ntmps97 rfl rfl (fun w0 hpre => ?_)
  refine c_seq ?_
  refine c_region ?_
  refine o_pure (p_assign (v := .int .i64 0) rfl) rfl rfl rfl ?_
  refine o_nil ?_
  refine q_then ?_
  refine c_seq ?_
  refine c_region ?_
  refine o_pure (p_move (v := .int .u64 (x.toNat : Int)) rfl) rfl rfl rfl ?_
  refine o_call0 (v := .bool false) rfl (isNaNU_ok x) hf114 (fun _ _ => trivial) rfl ?_
  refine o_pure (p_assign (v := .bool false) rfl) rfl rfl rfl ?_
  refine o_nil ?_
  refine q_then ?_
  refine c_seq ?_
  refine c_region ?_
  refine o_pure (p_move (v := .int .u64 (y.toNat : Int)) rfl) rfl rfl rfl ?_
  refine o_call0 (v := .bool false) rfl (isNaNU_ok y) hf114 (fun _ _ => trivial) rfl ?_
  refine o_pure (p_assign (v := .bool false) rfl) rfl rfl rfl ?_
  refine o_nil ?_
  refine q_then ?_
  refine c_seq ?_
  refine c_seq ?_
  refine c_region ?_
  refine o_pure (p_move (v := .bool false) rfl) rfl rfl rfl ?_
  refine o_nil ?_
  refine q_then ?_
  refine c_false rfl ?_
  refine c_skip ?_
  refine q_then ?_
  refine c_seq ?_
  refine c_seq ?_
  refine c_region ?_
  refine o_pure (p_move (v := .bool false) rfl) rfl rfl rfl ?_
  refine o_nil ?_
  refine q_then ?_
  refine c_false rfl ?_
  refine c_skip ?_
  refine q_then ?_
  refine c_seq ?_
  refine c_seq ?_
  refine c_region ?_
  refine o_pure (p_move (v := .int .u64 (x.toNat : Int)) rfl) rfl rfl rfl ?_
  refine o_pure (p_move (v := .int .u64 (y.toNat : Int)) rfl) rfl rfl rfl ?_
  refine o_pure (pu_lt (p := x) (q := y) rfl rfl) rfl rfl rfl ?_
  refine o_nil ?_
  refine q_then ?_
  refine c_cond (b := decide (x < y)) rfl (fun hc1 => ?_) (fun hc1 => ?_)
  · simp only [decide_eq_true_eq] at hc1
    refine c_seq ?_
    refine c_region ?_
    refine o_pure (p_assign (v := .int .i64 (-1)) rfl) rfl rfl rfl ?_
    refine o_nil ?_
    refine q_then ?_
    refine c_ret ?_
    refine q_then_ret ?_
    have hr0 : ((-1) : Int) = (cmpU x y) := by
      first | exact (if_pos (by assumption)).symm | (unfold cmpU; rw [if_neg (by first | assumption | exact UInt64.not_lt.2 (by assumption)), if_pos (by assumption)]) | (unfold cmpU; rw [if_neg (by first | assumption | exact UInt64.not_lt.2 (by assumption)), if_neg (by first | assumption | exact UInt64.not_lt.2 (by assumption))])
    refine q_end0 (v := .int .i64 (-1)) (rt1 rfl (r_tmp rfl)) (i := 0) rfl ?_
    exact (by have hcc := congrArg (fun (y0 : Int) => (.int .i64 y0 : Value)) hr0; exact hcc)
  · simp only [decide_eq_false_iff_not, Int.not_lt] at hc1
    refine c_skip ?_
    refine q_then ?_
    refine c_seq ?_
    refine c_seq ?_
    refine c_region ?_
    refine o_pure (p_move (v := .int .u64 (x.toNat : Int)) rfl) rfl rfl rfl ?_
    refine o_pure (p_move (v := .int .u64 (y.toNat : Int)) rfl) rfl rfl rfl ?_
    refine o_pure (pu_gt (p := x) (q := y) rfl rfl) rfl rfl rfl ?_
    refine o_nil ?_
    refine q_then ?_
    refine c_cond (b := decide (y < x)) rfl (fun hc2 => ?_) (fun hc2 => ?_)
    · simp only [decide_eq_true_eq] at hc2
      refine c_seq ?_
      refine c_region ?_
      refine o_pure (p_assign (v := .int .i64 1) rfl) rfl rfl rfl ?_
      refine o_nil ?_
      refine q_then ?_
      refine c_ret ?_
      refine q_then_ret ?_
      have hr0 : (1 : Int) = (cmpU x y) := by
        first | exact (if_pos (by assumption)).symm | (unfold cmpU; rw [if_neg (by first | assumption | exact UInt64.not_lt.2 (by assumption)), if_pos (by assumption)]) | (unfold cmpU; rw [if_neg (by first | assumption | exact UInt64.not_lt.2 (by assumption)), if_neg (by first | assumption | exact UInt64.not_lt.2 (by assumption))])
      refine q_end0 (v := .int .i64 1) (rt1 rfl (r_tmp rfl)) (i := 0) rfl ?_
      exact (by have hcc := congrArg (fun (y0 : Int) => (.int .i64 y0 : Value)) hr0; exact hcc)
    · simp only [decide_eq_false_iff_not, Int.not_lt] at hc2
      refine c_skip ?_
      refine q_then ?_
      refine c_seq ?_
      refine c_region ?_
      refine o_pure (p_assign (v := .int .i64 0) rfl) rfl rfl rfl ?_
      refine o_nil ?_
      refine q_then ?_
      refine c_ret ?_
      have hr0 : (0 : Int) = (cmpU x y) := by
        first | exact (if_pos (by assumption)).symm | (unfold cmpU; rw [if_neg (by first | assumption | exact UInt64.not_lt.2 (by assumption)), if_pos (by assumption)]) | (unfold cmpU; rw [if_neg (by first | assumption | exact UInt64.not_lt.2 (by assumption)), if_neg (by first | assumption | exact UInt64.not_lt.2 (by assumption))])
      refine q_end0 (v := .int .i64 0) (rt1 rfl (r_tmp rfl)) (i := 0) rfl ?_
      exact (by have hcc := congrArg (fun (y0 : Int) => (.int .i64 y0 : Value)) hr0; exact hcc)

set_option maxHeartbeats 8000000 in
set_option maxRecDepth 100000 in
theorem sright_ok (s : DShard) : Fn0 Try.prog 70 [.agg #[.string s.name, .int .i64 s.weight]] (fun _ => True) (.int .i64 (Shd.one s)) := by
  refine fn0 (nt := 17) (F0 := [(0, .agg #[.string s.name, .int .i64 s.weight])]) Try.func70 rfl Try.ntmps70 rfl rfl (fun w0 hpre => ?_)
  refine c_seq ?_
  refine c_region ?_
  refine o_box (v := .agg #[.string s.name, .int .i64 s.weight]) rfl rfl (fun B1 => ?_)
  refine o_pure (p_assign (v := .int .i64 0) rfl) rfl rfl rfl ?_
  refine o_nil ?_
  refine q_then ?_
  refine c_seq ?_
  refine c_block ?_
  refine c_seq ?_
  refine c_region ?_
  refine o_pure (p_fieldAddr (B := B1) (j := 0) (j' := 1) rfl fo50_1 rfl) rfl rfl rfl ?_
  refine o_pure (p_load (i := 0) (v := .int .i64 s.weight) rfl rfl sh3 rfl) rfl rfl rfl ?_
  refine o_pure (p_lt (p := s.weight) (q := 1) rfl rfl) rfl rfl rfl ?_
  refine o_pure (p_move (v := .bool (decide (s.weight < 1))) rfl) rfl rfl rfl ?_
  refine o_or (p := 11) 4 (decide (8 < s.weight)) ?_ ?_ ?_
  · intro hb2 hk
    simp only [decide_eq_false_iff_not, Int.not_lt] at hb2
    refine o_unguard 7 rfl rfl ?_
    refine o_pure (p_fieldAddr (B := B1) (j := 0) (j' := 1) rfl fo50_1 rfl) rfl rfl rfl ?_
    refine o_unguard 7 rfl rfl ?_
    refine o_pure (p_load (i := 0) (v := .int .i64 s.weight) rfl rfl sh3 rfl) rfl rfl rfl ?_
    refine o_unguard 7 rfl rfl ?_
    refine o_pure (p_gt (p := s.weight) (q := 8) rfl rfl) rfl rfl rfl ?_
    refine o_pure (p_pick_false (v := .bool (decide (8 < s.weight))) rfl rfl) rfl rfl rfl ?_
    exact o_sub (Sub.cons rfl (Sub.skip rfl (Sub.skip rfl (Sub.skip rfl (Sub.skip rfl (Sub.skip rfl (Sub.refl _))))))) hk
  · intro hb2 hk
    refine o_guard_no rfl 7 rfl rfl rfl rfl rfl ?_
    refine o_guard_no rfl 7 rfl rfl rfl rfl rfl ?_
    refine o_guard_no rfl 7 rfl rfl rfl rfl rfl ?_
    refine o_pure (p_pick_true (u := .bool true) rfl rfl) rfl rfl rfl ?_
    exact o_sub (Sub.cons rfl (Sub.skip rfl (Sub.skip rfl (Sub.skip rfl (Sub.skip rfl (Sub.skip rfl (Sub.refl _))))))) hk
  refine o_pure (p_assign (v := .bool (decide (s.weight < 1) || decide (8 < s.weight))) rfl) rfl rfl rfl ?_
  refine o_nil ?_
  refine q_then ?_
  refine c_cond (b := (decide (s.weight < 1) || decide (8 < s.weight))) rfl (fun hc3 => ?_) (fun hc3 => ?_)
  · simp only [Bool.or_eq_true, decide_eq_true_eq] at hc3
    refine c_seq ?_
    refine c_region ?_
    refine o_pure (p_assign (v := .int .i64 3) rfl) rfl rfl rfl ?_
    refine o_nil ?_
    refine q_then ?_
    refine c_ret ?_
    refine q_block_ret (q_then_ret ?_)
    have hr0 : (3 : Int) = (Shd.one s) := by
      first | exact Shd.one1 (by omega) | exact Shd.one2 (by omega) (by omega) | exact Shd.one3 (by omega) (by omega)
    refine q_end0 (v := .int .i64 3) (rt1 rfl (r_tmp rfl)) (i := 1) rfl ?_
    exact (by have hcc := congrArg (fun (y0 : Int) => (.int .i64 y0 : Value)) hr0; exact hcc)
  · simp only [Bool.or_eq_false_iff, decide_eq_false_iff_not, Int.not_lt] at hc3
    refine c_seq ?_
    refine c_region ?_
    refine o_pure (p_fieldAddr (B := B1) (j := 0) (j' := 0) rfl fo50_0 rfl) rfl rfl rfl ?_
    refine o_pure (p_load (i := 0) (v := .string s.name) rfl rfl sh9 rfl) rfl rfl rfl ?_
    refine o_pure (p_len_string rfl rfl Try.underlying9) rfl rfl rfl ?_
    refine o_pure (p_gt (p := (s.name.size : Int)) (q := 40) rfl rfl) rfl rfl rfl ?_
    refine o_pure (p_assign (v := .bool (decide (40 < (s.name.size : Int)))) rfl) rfl rfl rfl ?_
    refine o_nil ?_
    refine q_then ?_
    refine c_cond (b := decide (40 < (s.name.size : Int))) rfl (fun hc4 => ?_) (fun hc4 => ?_)
    · simp only [decide_eq_true_eq] at hc4
      refine c_seq ?_
      refine c_region ?_
      refine o_pure (p_assign (v := .int .i64 2) rfl) rfl rfl rfl ?_
      refine o_nil ?_
      refine q_then ?_
      refine c_ret ?_
      refine q_block_ret (q_then_ret ?_)
      have hr0 : (2 : Int) = (Shd.one s) := by
        first | exact Shd.one1 (by omega) | exact Shd.one2 (by omega) (by omega) | exact Shd.one3 (by omega) (by omega)
      refine q_end0 (v := .int .i64 2) (rt1 rfl (r_tmp rfl)) (i := 1) rfl ?_
      exact (by have hcc := congrArg (fun (y0 : Int) => (.int .i64 y0 : Value)) hr0; exact hcc)
    · simp only [decide_eq_false_iff_not, Int.not_lt] at hc4
      refine c_skip ?_
      refine q_block_normal (q_then ?_)
      refine c_seq ?_
      refine c_region ?_
      refine o_pure (p_assign (v := .int .i64 0) rfl) rfl rfl rfl ?_
      refine o_nil ?_
      refine q_then ?_
      refine c_ret ?_
      have hr0 : (0 : Int) = (Shd.one s) := by
        first | exact Shd.one1 (by omega) | exact Shd.one2 (by omega) (by omega) | exact Shd.one3 (by omega) (by omega)
      refine q_end0 (v := .int .i64 0) (rt1 rfl (r_tmp rfl)) (i := 1) rfl ?_
      exact (by have hcc := congrArg (fun (y0 : Int) => (.int .i64 y0 : Value)) hr0; exact hcc)

set_option maxHeartbeats 8000000 in
set_option maxRecDepth 100000 in
theorem scheck_ok (l : List DShard) (al : Option Addr) (cl : Nat) : Fn0 Try.prog 38 [.slice al l.length cl] (fun w => Rd tShard w al cl l) (.int .i64 (Shd.check l)) := by
  refine fn0 (nt := 37) (F0 := [(0, .slice al l.length cl)]) Try.func38 rfl Try.ntmps38 rfl rfl (fun w0 hpre => ?_)
  have hl := hpre
  have hlhl := hl.2.1
  refine c_seq ?_
  refine c_region ?_
  refine o_pure (p_assign (v := .int .i64 0) rfl) rfl rfl rfl ?_
  refine o_nil ?_
  refine q_then ?_
  refine c_seq ?_
  refine c_seq ?_
  refine c_region ?_
  refine o_pure (p_move (v := .slice al l.length cl) rfl) rfl rfl rfl ?_
  refine o_pure (p_len_slice (len := l.length) rfl rfl Try.underlying43) rfl rfl rfl ?_
  refine o_pure (p_gt (p := (l.length : Int)) (q := 20) rfl rfl) rfl rfl rfl ?_
  refine o_nil ?_
  refine q_then ?_
  refine c_cond (b := decide (20 < (l.length : Int))) rfl (fun hc1 => ?_) (fun hc1 => ?_)
  · simp only [decide_eq_true_eq] at hc1
    refine c_seq ?_
    refine c_region ?_
    refine o_pure (p_assign (v := .int .i64 2) rfl) rfl rfl rfl ?_
    refine o_nil ?_
    refine q_then ?_
    refine c_ret ?_
    refine q_then_ret ?_
    have hr0 : (2 : Int) = (Shd.check l) := by
      first | exact Shd.many (by omega) | exact hI1.bad (by omega) (by omega) (by assumption) | exact hI1.twice (by omega) (by omega) (by assumption) ((hI2 _).1 (by assumption)) | exact hI1.done (by omega) (by omega)
    refine q_end0 (v := .int .i64 2) (rt1 rfl (r_tmp rfl)) (i := 0) rfl ?_
    exact (by have hcc := congrArg (fun (y0 : Int) => (.int .i64 y0 : Value)) hr0; exact hcc)
  · simp only [decide_eq_false_iff_not, Int.not_lt] at hc1
    refine c_skip ?_
    refine q_then ?_
    refine c_seq ?_
    refine c_region ?_
    refine o_makeMap (ν := Unit) kStr (fun _ => .agg #[]) rfl (fun B2 => ?_)
    refine o_pure (p_assign (v := .map (some B2)) rfl) rfl rfl rfl ?_
    refine o_nil ?_
    refine q_then ?_
    refine c_seq ?_
    refine c_seq ?_
    refine c_region ?_
    refine o_pure (p_move (v := .slice al l.length cl) rfl) rfl rfl rfl ?_
    refine o_pure (p_len_slice (len := l.length) rfl rfl Try.underlying43) rfl rfl rfl ?_
    refine o_pure (p_move (v := .int .i64 0) rfl) rfl rfl rfl ?_
    refine o_nil ?_
    refine q_then ?_
    refine c_block ?_
    refine c_loop (St := Nat × List (ByteArray × Unit))
      (fun ⟨k, m⟩ => [(3, .map (some B2)), (13, .slice al l.length cl), (14, .int .i64 (l.length : Int)), (15, .int .i64 (k : Int))])
      (fun ⟨k, m⟩ => [mapE kStr (fun _ => .agg #[]) B2 m, base w0])
      (fun ⟨k, m⟩ => Shd.CI l k ∧ Shd.Seen m l k)
      (fun ⟨k, m⟩ => l.length - k)
      (0, []) ?_ (Sub.cons rfl (Sub.cons rfl (Sub.cons rfl (Sub.cons rfl (Sub.nil _))))) (fun _ hw => hw) ?_
    · exact ⟨Shd.CI.start l, Shd.Seen.start l⟩
    rintro ⟨k, m⟩ hI K hK3
    obtain ⟨hI1, hI2⟩ := hI
    have hle := hI1.le
    show SC _ _ Try.prog 37 w0 _ _ [(3, .map (some B2)), (13, .slice al l.length cl), (14, .int .i64 (l.length : Int)), (15, .int .i64 (k : Int))] [mapE kStr (fun _ => .agg #[]) B2 m, base w0]
    refine c_seq ?_
    refine c_region ?_
    refine o_pure (p_lt (p := (k : Int)) (q := (l.length : Int)) rfl rfl) rfl rfl rfl ?_
    refine o_nil ?_
    refine q_then ?_
    refine c_seq ?_
    refine c_cond (b := decide ((k : Int) < (l.length : Int))) rfl (fun hc4 => ?_) (fun hc4 => ?_)
    · simp only [decide_eq_true_eq] at hc4
      refine c_skip ?_
      refine q_then ?_
      refine c_seq ?_
      refine c_block ?_
      refine c_seq ?_
      refine c_region ?_
      refine o_pure (p_indexAddr (L := l) (T := tShard) (i := (k : Int)) rfl rfl (rd_base (i := 1) rfl hl) Try.underlying43 sz50 (by omega) (by omega)) rfl rfl rfl ?_
      refine o_pure (p_loadEn (i := k) (T := tShard) (L := l) (vs := [.string ((l[k]).name), .int .i64 ((l[k]).weight)]) rfl (rd_base (i := 1) rfl hl) (by first | assumption | omega) sh50 rfl) rfl rfl rfl ?_
      refine o_alloc ze50 rfl (fun B5 => ?_)
      refine o_storeN (i := 0) (vs := [.string ((l[k]).name), .int .i64 ((l[k]).weight)]) (cs' := [.string ((l[k]).name), .int .i64 ((l[k]).weight)]) rfl rfl rfl sz50 rfl rfl rfl rfl ?_
      refine o_nil ?_
      refine q_then ?_
      refine c_seq ?_
      refine c_seq ?_
      refine c_region ?_
      refine o_pure (p_load_agg (i := 0) (vs := [.string ((l[k]).name), .int .i64 ((l[k]).weight)]) rfl rfl sh50 rfl rfl) rfl rfl rfl ?_
      refine o_call0 (v := .int .i64 (Shd.one (l[k]))) rfl (sright_ok (l[k])) hf70 (fun _ _ => trivial) rfl ?_
      refine o_pure (p_assign (v := .int .i64 (Shd.one (l[k]))) rfl) rfl rfl rfl ?_
      refine o_nil ?_
      refine q_then ?_
      refine c_seq ?_
      refine c_region ?_
      refine o_pure (p_move (v := .int .i64 (Shd.one (l[k]))) rfl) rfl rfl rfl ?_
      refine o_pure (p_ne (p := (Shd.one (l[k]))) (q := 0) rfl rfl) rfl rfl rfl ?_
      refine o_nil ?_
      refine q_then ?_
      refine c_cond (b := ((Shd.one (l[k])) != 0)) rfl (fun hc6 => ?_) (fun hc6 => ?_)
      · simp only [bne_iff_ne, ne_eq] at hc6
        refine c_seq ?_
        refine c_region ?_
        refine o_pure (p_move (v := .int .i64 (Shd.one (l[k]))) rfl) rfl rfl rfl ?_
        refine o_pure (p_assign (v := .int .i64 (Shd.one (l[k]))) rfl) rfl rfl rfl ?_
        refine o_nil ?_
        refine q_then ?_
        refine c_ret ?_
        refine q_then_ret (q_block_ret (q_then_ret (q_then_ret (q_block_ret (q_then_ret ?_)))))
        have hr0 : ((Shd.one (l[k])) : Int) = (Shd.check l) := by
          first | exact Shd.many (by omega) | exact hI1.bad (by omega) (by omega) (by assumption) | exact hI1.twice (by omega) (by omega) (by assumption) ((hI2 _).1 (by assumption)) | exact hI1.done (by omega) (by omega)
        refine q_end0 (v := .int .i64 (Shd.one (l[k]))) (rt1 rfl (r_tmp rfl)) (i := 2) rfl ?_
        exact (by have hcc := congrArg (fun (y0 : Int) => (.int .i64 y0 : Value)) hr0; exact hcc)
      · simp only [bne_eq_false_iff_eq] at hc6
        refine c_skip ?_
        refine q_then ?_
        refine c_seq ?_
        refine c_seq ?_
        refine c_region ?_
        refine o_pure (p_move (v := .map (some B2)) rfl) rfl rfl rfl ?_
        refine o_pure (p_fieldAddr (B := B5) (j := 0) (j' := 0) rfl fo50_0 rfl) rfl rfl rfl ?_
        refine o_pure (p_load (i := 0) (v := .string ((l[k]).name)) rfl rfl sh9 rfl) rfl rfl rfl ?_
        refine o_pure (p_lookup2 (i := 1) (K := kStr) (ve := (fun _ => .agg #[])) (m := m) (k := (l[k]).name) (dflt := ()) rfl rfl rfl Try.underlying99 Try.underlying9 zv101) rfl rfl rfl ?_
        refine o_pure (p_move (v := .tuple #[.agg #[], .bool ((AL.get m ((l[k]).name)).isSome)]) rfl) rfl rfl rfl ?_
        refine o_pure (p_extract (vs := [.agg #[], .bool ((AL.get m ((l[k]).name)).isSome)]) (v := .agg #[]) rfl rfl) rfl rfl rfl ?_
        refine o_pure (p_extract (vs := [.agg #[], .bool ((AL.get m ((l[k]).name)).isSome)]) (v := .bool ((AL.get m ((l[k]).name)).isSome)) rfl rfl) rfl rfl rfl ?_
        refine o_alloc ze101 rfl (fun B7 => ?_)
        refine o_storeN (i := 0) (vs := []) (cs' := []) rfl rfl rfl sz101 rfl rfl rfl rfl ?_
        refine o_pure (p_assign (v := .bool ((AL.get m ((l[k]).name)).isSome)) rfl) rfl rfl rfl ?_
        refine o_nil ?_
        refine q_then ?_
        refine c_seq ?_
        refine c_region ?_
        refine o_pure (p_move (v := .bool ((AL.get m ((l[k]).name)).isSome)) rfl) rfl rfl rfl ?_
        refine o_nil ?_
        refine q_then ?_
        refine c_cond (b := (AL.get m ((l[k]).name)).isSome) rfl (fun hc8 => ?_) (fun hc8 => ?_)
        · skip
          refine c_seq ?_
          refine c_region ?_
          refine o_pure (p_assign (v := .int .i64 6) rfl) rfl rfl rfl ?_
          refine o_nil ?_
          refine q_then ?_
          refine c_ret ?_
          refine q_then_ret (q_block_ret (q_then_ret (q_then_ret (q_block_ret (q_then_ret ?_)))))
          have hr0 : (6 : Int) = (Shd.check l) := by
            first | exact Shd.many (by omega) | exact hI1.bad (by omega) (by omega) (by assumption) | exact hI1.twice (by omega) (by omega) (by assumption) ((hI2 _).1 (by assumption)) | exact hI1.done (by omega) (by omega)
          refine q_end0 (v := .int .i64 6) (rt1 rfl (r_tmp rfl)) (i := 3) rfl ?_
          exact (by have hcc := congrArg (fun (y0 : Int) => (.int .i64 y0 : Value)) hr0; exact hcc)
        · skip
          refine c_skip ?_
          refine q_then ?_
          refine c_region ?_
          refine o_pure (p_move (v := .map (some B2)) rfl) rfl rfl rfl ?_
          refine o_pure (p_fieldAddr (B := B5) (j := 0) (j' := 0) rfl fo50_0 rfl) rfl rfl rfl ?_
          refine o_pure (p_load (i := 1) (v := .string ((l[k]).name)) rfl rfl sh9 rfl) rfl rfl rfl ?_
          refine o_pure (p_build (cells := []) fp101 ze101 rfl rfl) rfl rfl rfl ?_
          refine o_mapUpdate (i := 2) (K := kStr) (ve := (fun _ => .agg #[])) (m := m) (k := (l[k]).name) (v := ()) rfl rfl rfl rfl Try.underlying99 Try.underlying9 ?_
          refine o_nil ?_
          refine q_block_normal (q_then ?_)
          refine c_region ?_
          refine o_pure (p_addb (p := (k : Int)) (q := 1) rfl rfl (by omega)) rfl rfl rfl ?_
          refine o_pure (p_move (v := .int .i64 ((k : Int) + 1)) rfl) rfl rfl rfl ?_
          refine o_nil ?_
          refine q_round hK3 (k + 1, (AL.set m ((l[k]).name) ())) ?_ ?_ ?_ ?_
          · clear hK3
            exact ⟨hI1.next (by omega) (by assumption) (hI2.no (by assumption)), hI2.next (by omega) _⟩
          · (try dsimp only); omega
          · exact Sub.cons rfl (Sub.cons rfl (Sub.cons rfl (Sub.cons rfl (Sub.nil _))))
          · exact fun _ hw => HeapIs.pick hw [2, 3] (by decide) rfl
    · simp only [decide_eq_false_iff_not, Int.not_lt] at hc4
      refine c_exit ?_
      refine q_then_exit (q_then_exit (q_block_exit (q_then ?_)))
      refine c_seq ?_
      refine c_region ?_
      refine o_pure (p_assign (v := .int .i64 0) rfl) rfl rfl rfl ?_
      refine o_nil ?_
      refine q_then ?_
      refine c_ret ?_
      have hr0 : (0 : Int) = (Shd.check l) := by
        first | exact Shd.many (by omega) | exact hI1.bad (by omega) (by omega) (by assumption) | exact hI1.twice (by omega) (by omega) (by assumption) ((hI2 _).1 (by assumption)) | exact hI1.done (by omega) (by omega)
      refine q_end0 (v := .int .i64 0) (rt1 rfl (r_tmp rfl)) (i := 1) rfl ?_
      exact (by have hcc := congrArg (fun (y0 : Int) => (.int .i64 y0 : Value)) hr0; exact hcc)

set_option maxHeartbeats 8000000 in
set_option maxRecDepth 100000 in
theorem sscore_ok (s : DShard) (key : UInt64) (hy1 : s.name.size ≤ 40 ∧ s.weight ≤ 8) : Fn0 Try.prog 71 [.agg #[.string s.name, .int .i64 s.weight], .int .u64 (key.toNat : Int)] (fun _ => True) (.int .u64 ((Shd.score s key).toNat : Int)) := by
  refine fn0 (nt := 27) (F0 := [(0, .agg #[.string s.name, .int .i64 s.weight]), (1, .int .u64 (key.toNat : Int))]) Try.func71 rfl Try.ntmps71 rfl rfl (fun w0 hpre => ?_)
  refine c_seq ?_
  refine c_region ?_
  refine o_box (v := .agg #[.string s.name, .int .i64 s.weight]) rfl rfl (fun B1 => ?_)
  refine o_pure (p_assign (v := .int .u64 ((0 : UInt64).toNat : Int)) rfl) rfl rfl rfl ?_
  refine o_nil ?_
  refine q_then ?_
  refine c_seq ?_
  refine c_region ?_
  refine o_pure (p_fieldAddr (B := B1) (j := 0) (j' := 0) rfl fo50_0 rfl) rfl rfl rfl ?_
  refine o_pure (p_load (i := 0) (v := .string s.name) rfl rfl sh9 rfl) rfl rfl rfl ?_
  refine o_call0 (v := .int .u64 ((Hash.raw s.name).toNat : Int)) rfl (raw_ok s.name) hf72 (fun w hw => (by first | assumption | omega | decide | (rw [ByteArray.size_append]; omega) | simp)) rfl ?_
  refine o_pure (p_assign (v := .int .u64 ((Hash.raw s.name).toNat : Int)) rfl) rfl rfl rfl ?_
  refine o_nil ?_
  refine q_then ?_
  refine c_seq ?_
  refine c_seq ?_
  refine c_region ?_
  refine o_pure (p_fieldAddr (B := B1) (j := 0) (j' := 1) rfl fo50_1 rfl) rfl rfl rfl ?_
  refine o_pure (p_load (i := 0) (v := .int .i64 s.weight) rfl rfl sh3 rfl) rfl rfl rfl ?_
  refine o_pure (p_move (v := .int .i64 0) rfl) rfl rfl rfl ?_
  refine o_nil ?_
  refine q_then ?_
  refine c_block ?_
  refine c_loop (St := UInt64 × Nat)
    (fun ⟨best, k⟩ => [(1, .int .u64 (key.toNat : Int)), (4, .int .u64 (best.toNat : Int)), (5, .int .u64 ((Hash.raw s.name).toNat : Int)), (11, .int .i64 s.weight), (12, .int .i64 (k : Int))])
    (fun ⟨best, k⟩ => [box B1 [.string s.name, .int .i64 s.weight] 50, base w0])
    (fun ⟨best, k⟩ => k ≤ s.weight.toNat ∧ best = Shd.scoreTo s key k)
    (fun ⟨best, k⟩ => s.weight.toNat - k)
    ((0 : UInt64), 0) ?_ (Sub.cons rfl (Sub.cons rfl (Sub.cons rfl (Sub.cons rfl (Sub.cons rfl (Sub.nil _)))))) (fun _ hw => hw) ?_
  · exact ⟨Nat.zero_le _, rfl⟩
  rintro ⟨best, k⟩ hI K hK2
  show SC _ _ Try.prog 27 w0 _ _ [(1, .int .u64 (key.toNat : Int)), (4, .int .u64 (best.toNat : Int)), (5, .int .u64 ((Hash.raw s.name).toNat : Int)), (11, .int .i64 s.weight), (12, .int .i64 (k : Int))] [box B1 [.string s.name, .int .i64 s.weight] 50, base w0]
  refine c_seq ?_
  refine c_region ?_
  refine o_pure (p_lt (p := (k : Int)) (q := s.weight) rfl rfl) rfl rfl rfl ?_
  refine o_nil ?_
  refine q_then ?_
  refine c_seq ?_
  refine c_cond (b := decide ((k : Int) < s.weight)) rfl (fun hc3 => ?_) (fun hc3 => ?_)
  · simp only [decide_eq_true_eq] at hc3
    refine c_skip ?_
    refine q_then ?_
    refine c_seq ?_
    refine c_block ?_
    refine c_seq ?_
    refine c_region ?_
    refine o_pure (p_move (v := .int .i64 (k : Int)) rfl) rfl rfl rfl ?_
    refine o_pure (p_assign (v := .int .i64 (k : Int)) rfl) rfl rfl rfl ?_
    refine o_nil ?_
    refine q_then ?_
    refine c_region ?_
    refine o_pure (p_move (v := .int .u64 (best.toNat : Int)) rfl) rfl rfl rfl ?_
    refine o_pure (p_move (v := .int .u64 (key.toNat : Int)) rfl) rfl rfl rfl ?_
    refine o_pure (p_move (v := .int .u64 ((Hash.raw s.name).toNat : Int)) rfl) rfl rfl rfl ?_
    refine o_pure (p_move (v := .int .i64 (k : Int)) rfl) rfl rfl rfl ?_
    refine o_pure (pu_conv (z := (k : Int)) rfl Try.underlying3 Try.underlying59) rfl rfl rfl ?_
    refine o_pure (pu_xor (p := (Hash.raw s.name)) (q := (toU (k : Int))) rfl rfl) rfl rfl rfl ?_
    refine o_call0 (v := .int .u64 ((Hash.mix ((Hash.raw s.name) ^^^ (toU (k : Int)))).toNat : Int)) rfl (mix_ok ((Hash.raw s.name) ^^^ (toU (k : Int)))) hf92 (fun _ _ => trivial) rfl ?_
    refine o_pure (pu_xor (p := key) (q := (Hash.mix ((Hash.raw s.name) ^^^ (toU (k : Int))))) rfl rfl) rfl rfl rfl ?_
    refine o_call0 (v := .int .u64 ((Hash.mix (key ^^^ (Hash.mix ((Hash.raw s.name) ^^^ (toU (k : Int)))))).toNat : Int)) rfl (mix_ok (key ^^^ (Hash.mix ((Hash.raw s.name) ^^^ (toU (k : Int)))))) hf92 (fun _ _ => trivial) rfl ?_
    refine o_pure (pu_max (p := best) (q := (Hash.mix (key ^^^ (Hash.mix ((Hash.raw s.name) ^^^ (toU (k : Int))))))) rfl rfl) rfl rfl rfl ?_
    refine o_pure (p_assign (v := .int .u64 ((mxU best (Hash.mix (key ^^^ (Hash.mix ((Hash.raw s.name) ^^^ (toU (k : Int))))))).toNat : Int)) rfl) rfl rfl rfl ?_
    refine o_nil ?_
    refine q_block_normal (q_then ?_)
    refine c_region ?_
    refine o_pure (p_addb (p := (k : Int)) (q := 1) rfl rfl (by omega)) rfl rfl rfl ?_
    refine o_pure (p_move (v := .int .i64 ((k : Int) + 1)) rfl) rfl rfl rfl ?_
    refine o_nil ?_
    refine q_round hK2 ((mxU best (Hash.mix (key ^^^ (Hash.mix ((Hash.raw s.name) ^^^ (toU (k : Int))))))), k + 1) ?_ ?_ ?_ ?_
    · clear hK2
      exact ⟨by omega, by rw [hI.2]; rfl⟩
    · (try dsimp only); omega
    · exact Sub.cons rfl (Sub.cons rfl (Sub.cons rfl (Sub.cons rfl (Sub.cons rfl (Sub.nil _)))))
    · exact fun _ hw => HeapIs.pick hw [0, 1] (by decide) rfl
  · simp only [decide_eq_false_iff_not, Int.not_lt] at hc3
    refine c_exit ?_
    refine q_then_exit (q_then_exit (q_block_exit (q_then ?_)))
    refine c_seq ?_
    refine c_region ?_
    refine o_pure (p_move (v := .int .u64 (best.toNat : Int)) rfl) rfl rfl rfl ?_
    refine o_pure (p_assign (v := .int .u64 (best.toNat : Int)) rfl) rfl rfl rfl ?_
    refine o_nil ?_
    refine q_then ?_
    refine c_ret ?_
    have hr0 : (best : UInt64) = (Shd.score s key) := by
      exact Shd.score_end hI.2 (by omega) hI.1
    refine q_end0 (v := .int .u64 (best.toNat : Int)) (rt1 rfl (r_tmp rfl)) (i := 1) rfl ?_
    exact (by have hcc := congrArg (fun (y0 : UInt64) => (.int .u64 (y0.toNat : Int) : Value)) hr0; exact hcc)

set_option maxHeartbeats 8000000 in
set_option maxRecDepth 100000 in
theorem sScore_ok (s : DShard) (key : ByteArray) : Fn0 Try.prog 35 [.agg #[.string s.name, .int .i64 s.weight], .string key] (fun _ => True) (.tuple #[.int .u64 ((Shd.scoreR s key).toNat : Int), .int .i64 (Shd.scoreErr s key)]) := by
  refine fn0 (nt := 23) (F0 := [(0, .agg #[.string s.name, .int .i64 s.weight]), (1, .string key)]) Try.func35 rfl Try.ntmps35 rfl rfl (fun w0 hpre => ?_)
  refine c_seq ?_
  refine c_region ?_
  refine o_box (v := .agg #[.string s.name, .int .i64 s.weight]) rfl rfl (fun B1 => ?_)
  refine o_pure (p_assign (v := .int .u64 ((0 : UInt64).toNat : Int)) rfl) rfl rfl rfl ?_
  refine o_pure (p_assign (v := .int .i64 0) rfl) rfl rfl rfl ?_
  refine o_nil ?_
  refine q_then ?_
  refine c_seq ?_
  refine c_region ?_
  refine o_pure (p_load_agg (i := 0) (vs := [.string s.name, .int .i64 s.weight]) rfl rfl sh50 rfl rfl) rfl rfl rfl ?_
  refine o_call0 (v := .int .i64 (Shd.one s)) rfl (sright_ok s) hf70 (fun _ _ => trivial) rfl ?_
  refine o_pure (p_assign (v := .int .i64 (Shd.one s)) rfl) rfl rfl rfl ?_
  refine o_nil ?_
  refine q_then ?_
  refine c_seq ?_
  refine c_seq ?_
  refine c_region ?_
  refine o_pure (p_move (v := .int .i64 (Shd.one s)) rfl) rfl rfl rfl ?_
  refine o_pure (p_eq (p := (Shd.one s)) (q := 0) rfl rfl) rfl rfl rfl ?_
  refine o_pure (p_move (v := .bool ((Shd.one s) == 0)) rfl) rfl rfl rfl ?_
  refine o_and (p := 15) 4 (decide (40 < (key.size : Int))) ?_ ?_ ?_
  · intro hb2 hk
    simp only [beq_iff_eq] at hb2
    refine o_unguard 11 rfl rfl ?_
    refine o_pure (p_move (v := .string key) rfl) rfl rfl rfl ?_
    refine o_unguard 11 rfl rfl ?_
    refine o_pure (p_len_string rfl rfl Try.underlying9) rfl rfl rfl ?_
    refine o_unguard 11 rfl rfl ?_
    refine o_pure (p_gt (p := (key.size : Int)) (q := 40) rfl rfl) rfl rfl rfl ?_
    refine o_pure (p_pick_true (u := .bool (decide (40 < (key.size : Int)))) rfl rfl) rfl rfl rfl ?_
    exact o_sub (Sub.cons rfl (Sub.skip rfl (Sub.skip rfl (Sub.skip rfl (Sub.skip rfl (Sub.skip rfl (Sub.refl _))))))) hk
  · intro hb2 hk
    refine o_guard_no rfl 11 rfl rfl rfl rfl rfl ?_
    refine o_guard_no rfl 11 rfl rfl rfl rfl rfl ?_
    refine o_guard_no rfl 11 rfl rfl rfl rfl rfl ?_
    refine o_pure (p_pick_false (v := .bool false) rfl rfl) rfl rfl rfl ?_
    exact o_sub (Sub.cons rfl (Sub.skip rfl (Sub.skip rfl (Sub.skip rfl (Sub.skip rfl (Sub.skip rfl (Sub.refl _))))))) hk
  refine o_nil ?_
  refine q_then ?_
  refine c_cond (b := (((Shd.one s) == 0) && decide (40 < (key.size : Int)))) rfl (fun hc3 => ?_) (fun hc3 => ?_)
  · simp only [Bool.and_eq_true, beq_iff_eq, decide_eq_true_eq] at hc3
    refine c_region ?_
    refine o_pure (p_assign (v := .int .i64 2) rfl) rfl rfl rfl ?_
    refine o_nil ?_
    refine q_then ?_
    refine c_seq ?_
    refine c_seq ?_
    refine c_region ?_
    refine o_pure (p_move (v := .int .i64 2) rfl) rfl rfl rfl ?_
    refine o_pure (p_ne (p := 2) (q := 0) rfl rfl) rfl rfl rfl ?_
    refine o_nil ?_
    refine q_then ?_
    refine c_true rfl ?_
    refine c_seq ?_
    refine c_region ?_
    refine o_pure (p_move (v := .int .i64 2) rfl) rfl rfl rfl ?_
    refine o_pure (p_assign (v := .int .u64 ((0 : UInt64).toNat : Int)) rfl) rfl rfl rfl ?_
    refine o_pure (p_assign (v := .int .i64 2) rfl) rfl rfl rfl ?_
    refine o_nil ?_
    refine q_then ?_
    refine c_ret ?_
    refine q_then_ret ?_
    rcases Shd.sc_cases s key with ⟨c1, c2, c3⟩ | ⟨c1, c4, c2, c3⟩ | ⟨c1, c4, c2, c3⟩ <;> try (exfalso; omega)
    have hr0 : ((0 : UInt64) : UInt64) = (Shd.scoreR s key) := by
      first | exact c3.symm | exact c2.symm | (rw [c2]; done) | (rw [c2]; assumption) | (rw [c2]; symm; assumption)
    have hr1 : (2 : Int) = (Shd.scoreErr s key) := by
      first | exact c3.symm | exact c2.symm | (rw [c2]; done) | (rw [c2]; assumption) | (rw [c2]; symm; assumption)
    refine q_end0 (v := .tuple #[.int .u64 ((0 : UInt64).toNat : Int), .int .i64 2]) (rt2 rfl (r_tmp rfl) (r_tmp rfl)) (i := 1) rfl ?_
    exact (by have hcc := congr (congrArg (fun (y0 : UInt64) (y1 : Int) => (.tuple #[.int .u64 (y0.toNat : Int), .int .i64 y1] : Value)) hr0) hr1; exact hcc)
  · simp only [Bool.and_eq_false_iff, beq_eq_false_iff_ne, ne_eq, decide_eq_false_iff_not, Int.not_lt] at hc3
    refine c_skip ?_
    refine q_then ?_
    refine c_seq ?_
    refine c_seq ?_
    refine c_region ?_
    refine o_pure (p_move (v := .int .i64 (Shd.one s)) rfl) rfl rfl rfl ?_
    refine o_pure (p_ne (p := (Shd.one s)) (q := 0) rfl rfl) rfl rfl rfl ?_
    refine o_nil ?_
    refine q_then ?_
    refine c_cond (b := ((Shd.one s) != 0)) rfl (fun hc4 => ?_) (fun hc4 => ?_)
    · simp only [bne_iff_ne, ne_eq] at hc4
      refine c_seq ?_
      refine c_region ?_
      refine o_pure (p_move (v := .int .i64 (Shd.one s)) rfl) rfl rfl rfl ?_
      refine o_pure (p_assign (v := .int .u64 ((0 : UInt64).toNat : Int)) rfl) rfl rfl rfl ?_
      refine o_pure (p_assign (v := .int .i64 (Shd.one s)) rfl) rfl rfl rfl ?_
      refine o_nil ?_
      refine q_then ?_
      refine c_ret ?_
      refine q_then_ret ?_
      rcases Shd.sc_cases s key with ⟨c1, c2, c3⟩ | ⟨c1, c4, c2, c3⟩ | ⟨c1, c4, c2, c3⟩ <;> try (exfalso; omega)
      have hr0 : ((0 : UInt64) : UInt64) = (Shd.scoreR s key) := by
        first | exact c3.symm | exact c2.symm | (rw [c2]; done) | (rw [c2]; assumption) | (rw [c2]; symm; assumption)
      have hr1 : ((Shd.one s) : Int) = (Shd.scoreErr s key) := by
        first | exact c3.symm | exact c2.symm | (rw [c2]; done) | (rw [c2]; assumption) | (rw [c2]; symm; assumption)
      refine q_end0 (v := .tuple #[.int .u64 ((0 : UInt64).toNat : Int), .int .i64 (Shd.one s)]) (rt2 rfl (r_tmp rfl) (r_tmp rfl)) (i := 1) rfl ?_
      exact (by have hcc := congr (congrArg (fun (y0 : UInt64) (y1 : Int) => (.tuple #[.int .u64 (y0.toNat : Int), .int .i64 y1] : Value)) hr0) hr1; exact hcc)
    · simp only [bne_eq_false_iff_eq] at hc4
      refine c_skip ?_
      refine q_then ?_
      refine c_seq ?_
      refine c_draw hmix (by kernel_rfl) ?_
      refine w_pure (p_load_agg (i := 0) (vs := [.string s.name, .int .i64 s.weight]) rfl rfl sh50 rfl rfl) rfl rfl rfl ?_
      refine w_pure (p_move (v := .string key) rfl) rfl rfl rfl ?_
      refine w_call0 (v := .int .u64 ((Hash.raw key).toNat : Int)) rfl (raw_ok key) hf72 (fun w hw => (by first | assumption | omega | decide | (rw [ByteArray.size_append]; omega) | simp)) rfl ?_
      refine w_call0 (v := .int .u64 ((Shd.score s (Hash.raw key)).toNat : Int)) rfl (sscore_ok s (Hash.raw key) (by first | assumption | (have h9 := hy1.1.getd (i := a.toNat) (by omega); omega) | (have h9 := hy1.1.getd (i := b.toNat) (by omega); omega) | (have h9 := Shd.one_ok.1 (by assumption); omega) | (have h9 := Shd.one_ok.1 (And.left (by assumption)); omega))) hf71 (fun _ _ => trivial) rfl ?_
      refine w_pure (p_assign (v := .int .u64 ((Shd.score s (Hash.raw key)).toNat : Int)) rfl) rfl rfl rfl ?_
      refine w_pure (p_assign (v := .int .i64 0) rfl) rfl rfl rfl ?_
      refine w_nil ?_
      refine q_then ?_
      refine c_ret ?_
      rcases Shd.sc_cases s key with ⟨c1, c2, c3⟩ | ⟨c1, c4, c2, c3⟩ | ⟨c1, c4, c2, c3⟩ <;> try (exfalso; omega)
      have hr0 : ((Shd.score s (Hash.raw key)) : UInt64) = (Shd.scoreR s key) := by
        first | exact c3.symm | exact c2.symm | (rw [c2]; done) | (rw [c2]; assumption) | (rw [c2]; symm; assumption)
      have hr1 : (0 : Int) = (Shd.scoreErr s key) := by
        first | exact c3.symm | exact c2.symm | (rw [c2]; done) | (rw [c2]; assumption) | (rw [c2]; symm; assumption)
      refine q_end0 (v := .tuple #[.int .u64 ((Shd.score s (Hash.raw key)).toNat : Int), .int .i64 0]) (rt2 rfl (r_tmp rfl) (r_tmp rfl)) (i := 1) rfl ?_
      exact (by have hcc := congr (congrArg (fun (y0 : UInt64) (y1 : Int) => (.tuple #[.int .u64 (y0.toNat : Int), .int .i64 y1] : Value)) hr0) hr1; exact hcc)
end Go.Proofs.Ythecfjipaepcgaa
