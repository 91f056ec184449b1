/- The walks, printed by a program from the translation and a specification. -/
import Derived.Test.YthbfdhphnofacaaHaF
import Derived.Test.YthbfdhphnofacaaHaPure
import Derived.Test.YthbfdhphnofacaaHaW1
namespace Go.Proofs.Ythbfdhphnofacaa
open Go.Sx Go.RowKit
set_option maxHeartbeats 8000000 in
set_option maxRecDepth 100000 in
theorem raw_ok (s : ByteArray) : Fn0 Try.prog 45 [.string s] (fun w => s.size ≤ 9223372036854775807) (.int .u64 ((Hash.raw s).toNat : Int)) := by
  refine fn0 (nt := 19) (F0 := [(0, .string s)]) Try.func45 rfl Try.ntmps45 rfl rfl (fun w0 hpre => ?_)
  have hs := hpre
  refine c_seq ?_
  refine c_region ?_
  refine o_pure (p_assign (v := .int .u64 ((0 : UInt64).toNat : Int)) rfl) rfl rfl rfl ?_
  refine o_nil ?_
  refine q_then ?_
  refine c_seq ?_
  refine c_region ?_
  refine o_pure (p_assign (v := .int .u64 ((14695981039346656037 : UInt64).toNat : Int)) rfl) rfl rfl rfl ?_
  refine o_nil ?_
  refine q_then ?_
  refine c_seq ?_
  refine c_seq ?_
  refine c_region ?_
  refine o_pure (p_move (v := .string s) rfl) rfl rfl rfl ?_
  refine o_pure (p_len_string rfl rfl Try.underlying9) rfl rfl rfl ?_
  refine o_pure (p_move (v := .int .i64 0) rfl) rfl rfl rfl ?_
  refine o_nil ?_
  refine q_then ?_
  refine c_block ?_
  refine c_loop (St := UInt64 × Nat)
    (fun ⟨n, k⟩ => [(0, .string s), (3, .int .u64 (n.toNat : Int)), (6, .int .i64 (s.size : Int)), (7, .int .i64 (k : Int))])
    (fun ⟨n, k⟩ => [base w0])
    (fun ⟨n, k⟩ => k ≤ s.size ∧ n = Hash.rawTo s k)
    (fun ⟨n, k⟩ => s.size - k)
    ((14695981039346656037 : UInt64), 0) ?_ (Sub.cons rfl (Sub.cons rfl (Sub.cons rfl (Sub.cons rfl (Sub.nil _))))) (fun _ hw => hw) ?_
  · exact ⟨Nat.zero_le _, rfl⟩
  rintro ⟨n, k⟩ hI K hK1
  obtain ⟨hk, ho⟩ := hI
  show SC Try.prog 19 w0 _ _ [(0, .string s), (3, .int .u64 (n.toNat : Int)), (6, .int .i64 (s.size : Int)), (7, .int .i64 (k : Int))] [base w0]
  refine c_seq ?_
  refine c_region ?_
  refine o_pure (p_lt (p := (k : Int)) (q := (s.size : Int)) rfl rfl) rfl rfl rfl ?_
  refine o_nil ?_
  refine q_then ?_
  refine c_seq ?_
  refine c_cond (b := decide ((k : Int) < (s.size : Int))) rfl (fun hc2 => ?_) (fun hc2 => ?_)
  · simp only [decide_eq_true_eq] at hc2
    refine c_skip ?_
    refine q_then ?_
    refine c_seq ?_
    refine c_block ?_
    refine c_seq ?_
    refine c_region ?_
    refine o_pure (p_move (v := .int .i64 (k : Int)) rfl) rfl rfl rfl ?_
    refine o_pure (p_assign (v := .int .i64 (k : Int)) rfl) rfl rfl rfl ?_
    refine o_nil ?_
    refine q_then ?_
    refine c_region ?_
    refine o_pure (p_move (v := .int .u64 (n.toNat : Int)) rfl) rfl rfl rfl ?_
    refine o_pure (p_move (v := .string s) rfl) rfl rfl rfl ?_
    refine o_pure (p_move (v := .int .i64 (k : Int)) rfl) rfl rfl rfl ?_
    refine o_pure (p_indexStr (z := (k : Int)) (i := k) rfl rfl Try.underlying9 (by omega) (by omega)) rfl rfl rfl ?_
    refine o_pure (pu_convB (c := (byteAt s k)) rfl Try.underlying5 Try.underlying22) rfl rfl rfl ?_
    refine o_pure (pu_xor (p := n) (q := (byteAt s k).toUInt64) rfl rfl) rfl rfl rfl ?_
    refine o_pure (pu_mul (p := (n ^^^ (byteAt s k).toUInt64)) (q := (1099511628211 : UInt64)) rfl rfl) rfl rfl rfl ?_
    refine o_pure (p_assign (v := .int .u64 (((n ^^^ (byteAt s k).toUInt64) * (1099511628211 : UInt64)).toNat : Int)) rfl) rfl rfl rfl ?_
    refine o_nil ?_
    refine q_block_normal (q_then ?_)
    refine c_region ?_
    refine o_pure (p_addb (p := (k : Int)) (q := 1) rfl rfl (by omega)) rfl rfl rfl ?_
    refine o_pure (p_move (v := .int .i64 ((k : Int) + 1)) rfl) rfl rfl rfl ?_
    refine o_nil ?_
    refine q_round hK1 (((n ^^^ (byteAt s k).toUInt64) * (1099511628211 : UInt64)), k + 1) ?_ ?_ ?_ ?_
    · clear hK1
      exact ⟨by omega, by rw [ho]; rfl⟩
    · (try dsimp only); omega
    · exact Sub.cons rfl (Sub.cons rfl (Sub.cons rfl (Sub.cons rfl (Sub.nil _))))
    · exact fun _ hw => HeapIs.drop hw (List.Sublist.refl _)
  · simp only [decide_eq_false_iff_not, Int.not_lt] at hc2
    refine c_exit ?_
    refine q_then_exit (q_then_exit (q_block_exit (q_then ?_)))
    refine c_seq ?_
    refine c_region ?_
    refine o_pure (p_move (v := .int .u64 (n.toNat : Int)) rfl) rfl rfl rfl ?_
    refine o_pure (p_assign (v := .int .u64 (n.toNat : Int)) rfl) rfl rfl rfl ?_
    refine o_nil ?_
    refine q_then ?_
    refine c_ret ?_
    refine q_end0 (v := .int .u64 (n.toNat : Int)) (rt1 rfl (r_tmp rfl)) (i := 0) rfl ?_
    rw [show n = Hash.raw s by unfold Hash.raw; rw [ho]; congr 1; omega]

set_option maxHeartbeats 8000000 in
set_option maxRecDepth 100000 in
theorem sum_ok (s : ByteArray) : Fn0 Try.prog 19 [.string s] (fun w => s.size ≤ 9223372036854775807) (.tuple #[.int .u64 ((Hash.sum s).toNat : Int), .int .i64 (Hash.sumErr s)]) := by
  refine fn0 (nt := 9) (F0 := [(0, .string s)]) Try.func19 rfl Try.ntmps19 rfl rfl (fun w0 hpre => ?_)
  have hs := hpre
  refine c_seq ?_
  refine c_region ?_
  refine o_pure (p_assign (v := .int .u64 ((0 : UInt64).toNat : Int)) rfl) rfl rfl rfl ?_
  refine o_pure (p_assign (v := .int .i64 0) rfl) rfl rfl rfl ?_
  refine o_nil ?_
  refine q_then ?_
  refine c_seq ?_
  refine c_seq ?_
  refine c_region ?_
  refine o_pure (p_move (v := .string s) rfl) rfl rfl rfl ?_
  refine o_pure (p_len_string rfl rfl Try.underlying9) rfl rfl rfl ?_
  refine o_pure (p_gt (p := (s.size : Int)) (q := 40) rfl rfl) rfl rfl rfl ?_
  refine o_nil ?_
  refine q_then ?_
  refine c_cond (b := decide (40 < (s.size : Int))) rfl (fun hc1 => ?_) (fun hc1 => ?_)
  · simp only [decide_eq_true_eq] at hc1
    refine c_seq ?_
    refine c_region ?_
    refine o_pure (p_assign (v := .int .u64 ((0 : UInt64).toNat : Int)) rfl) rfl rfl rfl ?_
    refine o_pure (p_assign (v := .int .i64 2) rfl) rfl rfl rfl ?_
    refine o_nil ?_
    refine q_then ?_
    refine c_ret ?_
    refine q_then_ret ?_
    refine q_end0 (v := .tuple #[.int .u64 ((0 : UInt64).toNat : Int), .int .i64 2]) (rt2 rfl (r_tmp rfl) (r_tmp rfl)) (i := 0) rfl ?_
    first | rw [show Hash.sum s = 0 from if_pos (by omega), show Hash.sumErr s = 2 from if_pos (by omega)] | rw [show Hash.sum s = Hash.raw s from if_neg (by omega), show Hash.sumErr s = 0 from if_neg (by omega)]
  · simp only [decide_eq_false_iff_not, Int.not_lt] at hc1
    refine c_skip ?_
    refine q_then ?_
    refine c_seq ?_
    refine c_region ?_
    refine o_pure (p_move (v := .string s) rfl) rfl rfl rfl ?_
    refine o_call0 (v := .int .u64 ((Hash.raw s).toNat : Int)) rfl (raw_ok s) hf45 (fun w hw => (by first | assumption | omega | decide | (rw [ByteArray.size_append]; omega) | simp)) rfl ?_
    refine o_pure (p_assign (v := .int .u64 ((Hash.raw s).toNat : Int)) rfl) rfl rfl rfl ?_
    refine o_pure (p_assign (v := .int .i64 0) rfl) rfl rfl rfl ?_
    refine o_nil ?_
    refine q_then ?_
    refine c_ret ?_
    refine q_end0 (v := .tuple #[.int .u64 ((Hash.raw s).toNat : Int), .int .i64 0]) (rt2 rfl (r_tmp rfl) (r_tmp rfl)) (i := 0) rfl ?_
    first | rw [show Hash.sum s = 0 from if_pos (by omega), show Hash.sumErr s = 2 from if_pos (by omega)] | rw [show Hash.sum s = Hash.raw s from if_neg (by omega), show Hash.sumErr s = 0 from if_neg (by omega)]

set_option maxHeartbeats 8000000 in
set_option maxRecDepth 100000 in
theorem rawFold_ok (n : UInt64) (most : Int) : Fn0 Try.prog 44 [.int .u64 (n.toNat : Int), .int .i64 most] (fun _ => True) (.int .i64 (Hash.rawFold n most)) := by
  refine fn0 (nt := 12) (F0 := [(0, .int .u64 (n.toNat : Int)), (1, .int .i64 most)]) Try.func44 rfl Try.ntmps44 rfl rfl (fun w0 hpre => ?_)
  refine c_seq ?_
  refine c_region ?_
  refine o_pure (p_assign (v := .int .i64 0) rfl) rfl rfl rfl ?_
  refine o_nil ?_
  refine q_then ?_
  refine c_seq ?_
  refine c_region ?_
  refine o_pure (p_move (v := .int .u64 (n.toNat : Int)) rfl) rfl rfl rfl ?_
  refine o_pure (pu_shr (p := n) (m := 32) rfl rfl (by decide)) rfl rfl rfl ?_
  refine o_pure (p_move (v := .int .i64 most) rfl) rfl rfl rfl ?_
  refine o_pure (pu_conv (z := most) rfl Try.underlying3 Try.underlying22) rfl rfl rfl ?_
  refine o_pure (pu_mul (p := (shrU n 32)) (q := (toU most)) rfl rfl) rfl rfl rfl ?_
  refine o_pure (pu_shr (p := ((shrU n 32) * (toU most))) (m := 32) rfl rfl (by decide)) rfl rfl rfl ?_
  refine o_pure (p_conv (z := ((shrU ((shrU n 32) * (toU most)) 32).toNat : Int)) rfl Try.underlying22 Try.underlying3) rfl rfl rfl ?_
  refine o_pure (p_assign (v := .int .i64 (IntKind.i64.wrap ((shrU ((shrU n 32) * (toU most)) 32).toNat : Int))) rfl) rfl rfl rfl ?_
  refine o_nil ?_
  refine q_then ?_
  refine c_ret ?_
  refine q_end0 (v := .int .i64 (IntKind.i64.wrap ((shrU ((shrU n 32) * (toU most)) 32).toNat : Int))) (rt1 rfl (r_tmp rfl)) (i := 0) rfl ?_
  rfl

set_option maxHeartbeats 8000000 in
set_option maxRecDepth 100000 in
theorem reduce_ok (n : UInt64) (most : Int) : Fn0 Try.prog 18 [.int .u64 (n.toNat : Int), .int .i64 most] (fun _ => True) (.tuple #[.int .i64 (Hash.reduce n most), .int .i64 (Hash.reduceErr most)]) := by
  refine fn0 (nt := 15) (F0 := [(0, .int .u64 (n.toNat : Int)), (1, .int .i64 most)]) Try.func18 rfl Try.ntmps18 rfl rfl (fun w0 hpre => ?_)
  refine c_seq ?_
  refine c_region ?_
  refine o_pure (p_assign (v := .int .i64 0) rfl) rfl rfl rfl ?_
  refine o_pure (p_assign (v := .int .i64 0) rfl) rfl rfl rfl ?_
  refine o_nil ?_
  refine q_then ?_
  refine c_seq ?_
  refine c_seq ?_
  refine c_region ?_
  refine o_pure (p_move (v := .int .i64 most) rfl) rfl rfl rfl ?_
  refine o_pure (p_lt (p := most) (q := 1) rfl rfl) rfl rfl rfl ?_
  refine o_pure (p_move (v := .bool (decide (most < 1))) rfl) rfl rfl rfl ?_
  refine o_or (p := 11) 3 (decide (1048576 < most)) ?_ ?_ ?_
  · intro hb1 hk
    simp only [decide_eq_false_iff_not, Int.not_lt] at hb1
    refine o_unguard 8 rfl rfl ?_
    refine o_pure (p_move (v := .int .i64 most) rfl) rfl rfl rfl ?_
    refine o_unguard 8 rfl rfl ?_
    refine o_pure (p_gt (p := most) (q := 1048576) rfl rfl) rfl rfl rfl ?_
    refine o_pure (p_pick_false (v := .bool (decide (1048576 < most))) rfl rfl) rfl rfl rfl ?_
    exact o_sub (Sub.cons rfl (Sub.skip rfl (Sub.skip rfl (Sub.skip rfl (Sub.skip rfl (Sub.refl _)))))) hk
  · intro hb1 hk
    refine o_guard_no rfl 8 rfl rfl rfl rfl rfl ?_
    refine o_guard_no rfl 8 rfl rfl rfl rfl rfl ?_
    refine o_pure (p_pick_true (u := .bool true) rfl rfl) rfl rfl rfl ?_
    exact o_sub (Sub.cons rfl (Sub.skip rfl (Sub.skip rfl (Sub.skip rfl (Sub.skip rfl (Sub.refl _)))))) hk
  refine o_nil ?_
  refine q_then ?_
  refine c_cond (b := (decide (most < 1) || decide (1048576 < most))) rfl (fun hc2 => ?_) (fun hc2 => ?_)
  · simp only [Bool.or_eq_true, decide_eq_true_eq] at hc2
    refine c_seq ?_
    refine c_region ?_
    refine o_pure (p_assign (v := .int .i64 0) rfl) rfl rfl rfl ?_
    refine o_pure (p_assign (v := .int .i64 3) rfl) rfl rfl rfl ?_
    refine o_nil ?_
    refine q_then ?_
    refine c_ret ?_
    refine q_then_ret ?_
    refine q_end0 (v := .tuple #[.int .i64 0, .int .i64 3]) (rt2 rfl (r_tmp rfl) (r_tmp rfl)) (i := 0) rfl ?_
    first | rw [show Hash.reduce n most = 0 from if_pos (by assumption), show Hash.reduceErr most = 3 from if_pos (by assumption)] | rw [show Hash.reduce n most = Hash.rawFold n most from if_neg (by omega), show Hash.reduceErr most = 0 from if_neg (by omega)]
  · simp only [Bool.or_eq_false_iff, decide_eq_false_iff_not, Int.not_lt] at hc2
    refine c_skip ?_
    refine q_then ?_
    refine c_seq ?_
    refine c_region ?_
    refine o_pure (p_move (v := .int .u64 (n.toNat : Int)) rfl) rfl rfl rfl ?_
    refine o_pure (p_move (v := .int .i64 most) rfl) rfl rfl rfl ?_
    refine o_call0 (v := .int .i64 (Hash.rawFold n most)) rfl (rawFold_ok n most) hf44 (fun _ _ => trivial) rfl ?_
    refine o_pure (p_assign (v := .int .i64 (Hash.rawFold n most)) rfl) rfl rfl rfl ?_
    refine o_pure (p_assign (v := .int .i64 0) rfl) rfl rfl rfl ?_
    refine o_nil ?_
    refine q_then ?_
    refine c_ret ?_
    refine q_end0 (v := .tuple #[.int .i64 (Hash.rawFold n most), .int .i64 0]) (rt2 rfl (r_tmp rfl) (r_tmp rfl)) (i := 0) rfl ?_
    first | rw [show Hash.reduce n most = 0 from if_pos (by assumption), show Hash.reduceErr most = 3 from if_pos (by assumption)] | rw [show Hash.reduce n most = Hash.rawFold n most from if_neg (by omega), show Hash.reduceErr most = 0 from if_neg (by omega)]

set_option maxHeartbeats 8000000 in
set_option maxRecDepth 100000 in
theorem salted_ok (s : ByteArray) (salt : UInt64) : Fn0 Try.prog 20 [.string s, .int .u64 (salt.toNat : Int)] (fun w => s.size ≤ 9223372036854775807) (.tuple #[.int .u64 ((Hash.salted s salt).toNat : Int), .int .i64 (Hash.sumErr s)]) := by
  refine fn0 (nt := 20) (F0 := [(0, .string s), (1, .int .u64 (salt.toNat : Int))]) Try.func20 rfl Try.ntmps20 rfl rfl (fun w0 hpre => ?_)
  have hs := hpre
  refine c_seq ?_
  refine c_region ?_
  refine o_pure (p_assign (v := .int .u64 ((0 : UInt64).toNat : Int)) rfl) rfl rfl rfl ?_
  refine o_pure (p_assign (v := .int .i64 0) rfl) rfl rfl rfl ?_
  refine o_nil ?_
  refine q_then ?_
  refine c_seq ?_
  refine c_region ?_
  refine o_pure (p_move (v := .string s) rfl) rfl rfl rfl ?_
  refine o_call0 (v := .tuple #[.int .u64 ((Hash.sum s).toNat : Int), .int .i64 (Hash.sumErr s)]) rfl (sum_ok s) hf19 (fun w hw => (by first | assumption | omega | decide | (rw [ByteArray.size_append]; omega) | simp)) rfl ?_
  refine o_pure (p_move (v := .tuple #[.int .u64 ((Hash.sum s).toNat : Int), .int .i64 (Hash.sumErr s)]) rfl) rfl rfl rfl ?_
  refine o_pure (p_extract (vs := [.int .u64 ((Hash.sum s).toNat : Int), .int .i64 (Hash.sumErr s)]) (v := .int .u64 ((Hash.sum s).toNat : Int)) rfl rfl) rfl rfl rfl ?_
  refine o_pure (p_extract (vs := [.int .u64 ((Hash.sum s).toNat : Int), .int .i64 (Hash.sumErr s)]) (v := .int .i64 (Hash.sumErr s)) rfl rfl) rfl rfl rfl ?_
  refine o_pure (p_assign (v := .int .u64 ((Hash.sum s).toNat : Int)) rfl) rfl rfl rfl ?_
  refine o_pure (p_assign (v := .int .i64 (Hash.sumErr s)) rfl) rfl rfl rfl ?_
  refine o_nil ?_
  refine q_then ?_
  refine c_seq ?_
  refine c_seq ?_
  refine c_region ?_
  refine o_pure (p_move (v := .int .i64 (Hash.sumErr s)) rfl) rfl rfl rfl ?_
  refine o_pure (p_ne (p := (Hash.sumErr s)) (q := 0) rfl rfl) rfl rfl rfl ?_
  refine o_nil ?_
  refine q_then ?_
  refine c_cond (b := ((Hash.sumErr s) != 0)) rfl (fun hc1 => ?_) (fun hc1 => ?_)
  · simp only [bne_iff_ne, ne_eq] at hc1
    refine c_seq ?_
    refine c_region ?_
    refine o_pure (p_move (v := .int .i64 (Hash.sumErr s)) rfl) rfl rfl rfl ?_
    refine o_pure (p_assign (v := .int .u64 ((0 : UInt64).toNat : Int)) rfl) rfl rfl rfl ?_
    refine o_pure (p_assign (v := .int .i64 (Hash.sumErr s)) rfl) rfl rfl rfl ?_
    refine o_nil ?_
    refine q_then ?_
    refine c_ret ?_
    refine q_then_ret ?_
    refine q_end0 (v := .tuple #[.int .u64 ((0 : UInt64).toNat : Int), .int .i64 (Hash.sumErr s)]) (rt2 rfl (r_tmp rfl) (r_tmp rfl)) (i := 0) rfl ?_
    first | rw [show Hash.salted s salt = 0 from if_neg (by assumption)] | rw [show Hash.salted s salt = Hash.mix (Hash.sum s ^^^ salt) from if_pos (by assumption), show Hash.sumErr s = 0 from (by assumption)]
  · simp only [bne_eq_false_iff_eq] at hc1
    refine c_skip ?_
    refine q_then ?_
    refine c_seq ?_
    refine c_region ?_
    refine o_pure (p_move (v := .int .u64 ((Hash.sum s).toNat : Int)) rfl) rfl rfl rfl ?_
    refine o_pure (p_move (v := .int .u64 (salt.toNat : Int)) rfl) rfl rfl rfl ?_
    refine o_pure (pu_xor (p := (Hash.sum s)) (q := salt) rfl rfl) rfl rfl rfl ?_
    refine o_call0 (v := .int .u64 ((Hash.mix ((Hash.sum s) ^^^ salt)).toNat : Int)) rfl (mix_ok ((Hash.sum s) ^^^ salt)) hf15 (fun _ _ => trivial) rfl ?_
    refine o_pure (p_assign (v := .int .u64 ((Hash.mix ((Hash.sum s) ^^^ salt)).toNat : Int)) rfl) rfl rfl rfl ?_
    refine o_pure (p_assign (v := .int .i64 0) rfl) rfl rfl rfl ?_
    refine o_nil ?_
    refine q_then ?_
    refine c_ret ?_
    refine q_end0 (v := .tuple #[.int .u64 ((Hash.mix ((Hash.sum s) ^^^ salt)).toNat : Int), .int .i64 0]) (rt2 rfl (r_tmp rfl) (r_tmp rfl)) (i := 0) rfl ?_
    first | rw [show Hash.salted s salt = 0 from if_neg (by assumption)] | rw [show Hash.salted s salt = Hash.mix (Hash.sum s ^^^ salt) from if_pos (by assumption), show Hash.sumErr s = 0 from (by assumption)]
end Go.Proofs.Ythbfdhphnofacaa
