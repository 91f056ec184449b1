/- The walks, printed by a program from the translation and a specification. -/
import Derived.Test.YthbfdhphnofacaaHaF
import Derived.Test.YthbfdhphnofacaaHaPure
import Derived.Test.YthbfdhphnofacaaHaW5
import Derived.Test.YthbfdhphnofacaaHaW4
import Derived.Test.YthbfdhphnofacaaHaLaw
namespace Go.Proofs.Ythbfdhphnofacaa
open Go.Sx Go.RowKit
set_option maxHeartbeats 8000000 in
set_option maxRecDepth 100000 in
theorem hashSpec_ok (s : ByteArray) (n : UInt64) (salt : UInt64) (most : Int) : Fn0 Try.prog 6 [.string s, .int .u64 (n.toNat : Int), .int .u64 (salt.toNat : Int), .int .i64 most] (fun w => s.size ≤ 9223372036854775807) (.bool true) := by
  refine fn0 (nt := 93) (F0 := [(0, .string s), (1, .int .u64 (n.toNat : Int)), (2, .int .u64 (salt.toNat : Int)), (3, .int .i64 most)]) Try.func6 rfl Try.ntmps6 rfl rfl (fun w0 hpre => ?_)
  have hs := hpre
  refine c_seq ?_
  refine c_region ?_
  refine o_pure (p_assign (v := .bool false) rfl) rfl rfl rfl ?_
  refine o_nil ?_
  refine q_then ?_
  refine c_seq ?_
  refine c_region ?_
  refine o_pure (p_move (v := .string s) rfl) rfl rfl rfl ?_
  refine o_call0 (v := .tuple #[.int .u64 ((Hash.sum s).toNat : Int), .int .i64 (Hash.sumErr s)]) rfl (sum_ok s) hf19 (fun w hw => (by first | assumption | omega | decide | (rw [ByteArray.size_append]; omega) | simp)) rfl ?_
  refine o_pure (p_move (v := .tuple #[.int .u64 ((Hash.sum s).toNat : Int), .int .i64 (Hash.sumErr s)]) rfl) rfl rfl rfl ?_
  refine o_pure (p_extract (vs := [.int .u64 ((Hash.sum s).toNat : Int), .int .i64 (Hash.sumErr s)]) (v := .int .u64 ((Hash.sum s).toNat : Int)) rfl rfl) rfl rfl rfl ?_
  refine o_pure (p_extract (vs := [.int .u64 ((Hash.sum s).toNat : Int), .int .i64 (Hash.sumErr s)]) (v := .int .i64 (Hash.sumErr s)) rfl rfl) rfl rfl rfl ?_
  refine o_pure (p_assign (v := .int .u64 ((Hash.sum s).toNat : Int)) rfl) rfl rfl rfl ?_
  refine o_pure (p_assign (v := .int .i64 (Hash.sumErr s)) rfl) rfl rfl rfl ?_
  refine o_nil ?_
  refine q_then ?_
  refine c_seq ?_
  refine c_region ?_
  refine o_pure (p_move (v := .int .u64 (n.toNat : Int)) rfl) rfl rfl rfl ?_
  refine o_pure (p_move (v := .int .i64 most) rfl) rfl rfl rfl ?_
  refine o_call0 (v := .tuple #[.int .i64 (Hash.reduce n most), .int .i64 (Hash.reduceErr most)]) rfl (reduce_ok n most) hf18 (fun _ _ => trivial) rfl ?_
  refine o_pure (p_move (v := .tuple #[.int .i64 (Hash.reduce n most), .int .i64 (Hash.reduceErr most)]) rfl) rfl rfl rfl ?_
  refine o_pure (p_extract (vs := [.int .i64 (Hash.reduce n most), .int .i64 (Hash.reduceErr most)]) (v := .int .i64 (Hash.reduce n most)) rfl rfl) rfl rfl rfl ?_
  refine o_pure (p_extract (vs := [.int .i64 (Hash.reduce n most), .int .i64 (Hash.reduceErr most)]) (v := .int .i64 (Hash.reduceErr most)) rfl rfl) rfl rfl rfl ?_
  refine o_pure (p_assign (v := .int .i64 (Hash.reduce n most)) rfl) rfl rfl rfl ?_
  refine o_pure (p_assign (v := .int .i64 (Hash.reduceErr most)) rfl) rfl rfl rfl ?_
  refine o_nil ?_
  refine q_then ?_
  refine c_seq ?_
  refine c_region ?_
  refine o_pure (p_move (v := .string s) rfl) rfl rfl rfl ?_
  refine o_pure (p_move (v := .int .u64 (salt.toNat : Int)) rfl) rfl rfl rfl ?_
  refine o_call0 (v := .tuple #[.int .u64 ((Hash.salted s salt).toNat : Int), .int .i64 (Hash.sumErr s)]) rfl (salted_ok s salt) hf20 (fun w hw => (by first | assumption | omega | decide | (rw [ByteArray.size_append]; omega) | simp)) rfl ?_
  refine o_pure (p_move (v := .tuple #[.int .u64 ((Hash.salted s salt).toNat : Int), .int .i64 (Hash.sumErr s)]) rfl) rfl rfl rfl ?_
  refine o_pure (p_extract (vs := [.int .u64 ((Hash.salted s salt).toNat : Int), .int .i64 (Hash.sumErr s)]) (v := .int .u64 ((Hash.salted s salt).toNat : Int)) rfl rfl) rfl rfl rfl ?_
  refine o_pure (p_extract (vs := [.int .u64 ((Hash.salted s salt).toNat : Int), .int .i64 (Hash.sumErr s)]) (v := .int .i64 (Hash.sumErr s)) rfl rfl) rfl rfl rfl ?_
  refine o_pure (p_assign (v := .int .u64 ((Hash.salted s salt).toNat : Int)) rfl) rfl rfl rfl ?_
  refine o_pure (p_assign (v := .int .i64 (Hash.sumErr s)) rfl) rfl rfl rfl ?_
  refine o_nil ?_
  refine q_then ?_
  refine c_seq ?_
  refine c_region ?_
  refine o_pure (p_assign (v := .int .i64 0) rfl) rfl rfl rfl ?_
  refine o_pure (p_assign (v := .int .i64 0) rfl) rfl rfl rfl ?_
  refine o_nil ?_
  refine q_then ?_
  refine c_seq ?_
  refine c_region ?_
  refine o_pure (p_assign (v := .int .u64 ((0 : UInt64).toNat : Int)) rfl) rfl rfl rfl ?_
  refine o_pure (p_assign (v := .int .u64 ((0 : UInt64).toNat : Int)) rfl) rfl rfl rfl ?_
  refine o_pure (p_assign (v := .int .i64 0) rfl) rfl rfl rfl ?_
  refine o_nil ?_
  refine q_then ?_
  refine c_seq ?_
  refine c_seq ?_
  refine c_region ?_
  refine o_pure (p_move (v := .string s) rfl) rfl rfl rfl ?_
  refine o_pure (p_len_string rfl rfl Try.underlying9) rfl rfl rfl ?_
  refine o_pure (p_gt (p := (s.size : Int)) (q := 40) rfl rfl) rfl rfl rfl ?_
  refine o_nil ?_
  refine q_then ?_
  refine c_cond (b := decide (40 < (s.size : Int))) rfl (fun hc1 => ?_) (fun hc1 => ?_)
  · simp only [decide_eq_true_eq] at hc1
    refine c_region ?_
    refine o_pure (p_assign (v := .int .i64 2) rfl) rfl rfl rfl ?_
    refine o_nil ?_
    refine q_then ?_
    refine c_seq ?_
    refine c_seq ?_
    refine c_region ?_
    refine o_pure (p_move (v := .int .i64 most) rfl) rfl rfl rfl ?_
    refine o_pure (p_lt (p := most) (q := 1) rfl rfl) rfl rfl rfl ?_
    refine o_pure (p_move (v := .bool (decide (most < 1))) rfl) rfl rfl rfl ?_
    refine o_or (p := 51) 3 (decide (1048576 < most)) ?_ ?_ ?_
    · intro hb2 hk
      simp only [decide_eq_false_iff_not, Int.not_lt] at hb2
      refine o_unguard 48 rfl rfl ?_
      refine o_pure (p_move (v := .int .i64 most) rfl) rfl rfl rfl ?_
      refine o_unguard 48 rfl rfl ?_
      refine o_pure (p_gt (p := most) (q := 1048576) rfl rfl) rfl rfl rfl ?_
      refine o_pure (p_pick_false (v := .bool (decide (1048576 < most))) rfl rfl) rfl rfl rfl ?_
      exact o_sub (Sub.cons rfl (Sub.skip rfl (Sub.skip rfl (Sub.skip rfl (Sub.skip rfl (Sub.refl _)))))) hk
    · intro hb2 hk
      refine o_guard_no rfl 48 rfl rfl rfl rfl rfl ?_
      refine o_guard_no rfl 48 rfl rfl rfl rfl rfl ?_
      refine o_pure (p_pick_true (u := .bool true) rfl rfl) rfl rfl rfl ?_
      exact o_sub (Sub.cons rfl (Sub.skip rfl (Sub.skip rfl (Sub.skip rfl (Sub.skip rfl (Sub.refl _)))))) hk
    refine o_nil ?_
    refine q_then ?_
    refine c_cond (b := (decide (most < 1) || decide (1048576 < most))) rfl (fun hc3 => ?_) (fun hc3 => ?_)
    · simp only [Bool.or_eq_true, decide_eq_true_eq] at hc3
      refine c_region ?_
      refine o_pure (p_assign (v := .int .i64 3) rfl) rfl rfl rfl ?_
      refine o_nil ?_
      refine q_then ?_
      refine c_seq ?_
      refine c_region ?_
      refine o_call0 (v := .bool true) rfl (mixBegun_ok ) hf16 (fun _ _ => trivial) rfl ?_
      refine o_pure (p_move (v := .bool true) rfl) rfl rfl rfl ?_
      refine o_unguard 56 rfl rfl ?_
      refine o_pure (p_move (v := .int .u64 ((Hash.sum s).toNat : Int)) rfl) rfl rfl rfl ?_
      refine o_unguard 56 rfl rfl ?_
      refine o_pure (p_move (v := .int .u64 ((0 : UInt64).toNat : Int)) rfl) rfl rfl rfl ?_
      refine o_unguard 56 rfl rfl ?_
      refine o_pure (pu_eq (p := (Hash.sum s)) (q := (0 : UInt64)) rfl rfl) rfl rfl rfl ?_
      refine o_pure (p_pick_true (u := .bool ((Hash.sum s) == (0 : UInt64))) rfl rfl) rfl rfl rfl ?_
      refine o_pure (p_move (v := .bool ((Hash.sum s) == (0 : UInt64))) rfl) rfl rfl rfl ?_
      refine o_and (p := 65) 4 ((Hash.sumErr s) == 2) ?_ ?_ ?_
      · intro hb4 hk
        simp only [beq_iff_eq] at hb4
        refine o_unguard 61 rfl rfl ?_
        refine o_pure (p_move (v := .int .i64 (Hash.sumErr s)) rfl) rfl rfl rfl ?_
        refine o_unguard 61 rfl rfl ?_
        refine o_pure (p_move (v := .int .i64 2) rfl) rfl rfl rfl ?_
        refine o_unguard 61 rfl rfl ?_
        refine o_pure (p_eq (p := (Hash.sumErr s)) (q := 2) rfl rfl) rfl rfl rfl ?_
        refine o_pure (p_pick_true (u := .bool ((Hash.sumErr s) == 2)) rfl rfl) rfl rfl rfl ?_
        exact o_sub (Sub.cons rfl (Sub.skip rfl (Sub.skip rfl (Sub.skip rfl (Sub.skip rfl (Sub.skip rfl (Sub.refl _))))))) hk
      · intro hb4 hk
        refine o_guard_no rfl 61 rfl rfl rfl rfl rfl ?_
        refine o_guard_no rfl 61 rfl rfl rfl rfl rfl ?_
        refine o_guard_no rfl 61 rfl rfl rfl rfl rfl ?_
        refine o_pure (p_pick_false (v := .bool false) rfl rfl) rfl rfl rfl ?_
        exact o_sub (Sub.cons rfl (Sub.skip rfl (Sub.skip rfl (Sub.skip rfl (Sub.skip rfl (Sub.skip rfl (Sub.refl _))))))) hk
      refine o_pure (p_move (v := .bool (((Hash.sum s) == (0 : UInt64)) && ((Hash.sumErr s) == 2))) rfl) rfl rfl rfl ?_
      refine o_and (p := 70) 4 ((Hash.reduce n most) == 0) ?_ ?_ ?_
      · intro hb5 hk
        simp only [Bool.and_eq_true, beq_iff_eq] at hb5
        refine o_unguard 66 rfl rfl ?_
        refine o_pure (p_move (v := .int .i64 (Hash.reduce n most)) rfl) rfl rfl rfl ?_
        refine o_unguard 66 rfl rfl ?_
        refine o_pure (p_move (v := .int .i64 0) rfl) rfl rfl rfl ?_
        refine o_unguard 66 rfl rfl ?_
        refine o_pure (p_eq (p := (Hash.reduce n most)) (q := 0) rfl rfl) rfl rfl rfl ?_
        refine o_pure (p_pick_true (u := .bool ((Hash.reduce n most) == 0)) rfl rfl) rfl rfl rfl ?_
        exact o_sub (Sub.cons rfl (Sub.skip rfl (Sub.skip rfl (Sub.skip rfl (Sub.skip rfl (Sub.skip rfl (Sub.refl _))))))) hk
      · intro hb5 hk
        refine o_guard_no rfl 66 rfl rfl rfl rfl rfl ?_
        refine o_guard_no rfl 66 rfl rfl rfl rfl rfl ?_
        refine o_guard_no rfl 66 rfl rfl rfl rfl rfl ?_
        refine o_pure (p_pick_false (v := .bool false) rfl rfl) rfl rfl rfl ?_
        exact o_sub (Sub.cons rfl (Sub.skip rfl (Sub.skip rfl (Sub.skip rfl (Sub.skip rfl (Sub.skip rfl (Sub.refl _))))))) hk
      refine o_pure (p_move (v := .bool ((((Hash.sum s) == (0 : UInt64)) && ((Hash.sumErr s) == 2)) && ((Hash.reduce n most) == 0))) rfl) rfl rfl rfl ?_
      refine o_and (p := 75) 4 ((Hash.reduceErr most) == 3) ?_ ?_ ?_
      · intro hb6 hk
        simp only [Bool.and_eq_true, beq_iff_eq] at hb6
        refine o_unguard 71 rfl rfl ?_
        refine o_pure (p_move (v := .int .i64 (Hash.reduceErr most)) rfl) rfl rfl rfl ?_
        refine o_unguard 71 rfl rfl ?_
        refine o_pure (p_move (v := .int .i64 3) rfl) rfl rfl rfl ?_
        refine o_unguard 71 rfl rfl ?_
        refine o_pure (p_eq (p := (Hash.reduceErr most)) (q := 3) rfl rfl) rfl rfl rfl ?_
        refine o_pure (p_pick_true (u := .bool ((Hash.reduceErr most) == 3)) rfl rfl) rfl rfl rfl ?_
        exact o_sub (Sub.cons rfl (Sub.skip rfl (Sub.skip rfl (Sub.skip rfl (Sub.skip rfl (Sub.skip rfl (Sub.refl _))))))) hk
      · intro hb6 hk
        refine o_guard_no rfl 71 rfl rfl rfl rfl rfl ?_
        refine o_guard_no rfl 71 rfl rfl rfl rfl rfl ?_
        refine o_guard_no rfl 71 rfl rfl rfl rfl rfl ?_
        refine o_pure (p_pick_false (v := .bool false) rfl rfl) rfl rfl rfl ?_
        exact o_sub (Sub.cons rfl (Sub.skip rfl (Sub.skip rfl (Sub.skip rfl (Sub.skip rfl (Sub.skip rfl (Sub.refl _))))))) hk
      refine o_pure (p_move (v := .bool (((((Hash.sum s) == (0 : UInt64)) && ((Hash.sumErr s) == 2)) && ((Hash.reduce n most) == 0)) && ((Hash.reduceErr most) == 3))) rfl) rfl rfl rfl ?_
      refine o_and (p := 80) 4 ((Hash.salted s salt) == (0 : UInt64)) ?_ ?_ ?_
      · intro hb7 hk
        simp only [Bool.and_eq_true, beq_iff_eq] at hb7
        refine o_unguard 76 rfl rfl ?_
        refine o_pure (p_move (v := .int .u64 ((Hash.salted s salt).toNat : Int)) rfl) rfl rfl rfl ?_
        refine o_unguard 76 rfl rfl ?_
        refine o_pure (p_move (v := .int .u64 ((0 : UInt64).toNat : Int)) rfl) rfl rfl rfl ?_
        refine o_unguard 76 rfl rfl ?_
        refine o_pure (pu_eq (p := (Hash.salted s salt)) (q := (0 : UInt64)) rfl rfl) rfl rfl rfl ?_
        refine o_pure (p_pick_true (u := .bool ((Hash.salted s salt) == (0 : UInt64))) rfl rfl) rfl rfl rfl ?_
        exact o_sub (Sub.cons rfl (Sub.skip rfl (Sub.skip rfl (Sub.skip rfl (Sub.skip rfl (Sub.skip rfl (Sub.refl _))))))) hk
      · intro hb7 hk
        refine o_guard_no rfl 76 rfl rfl rfl rfl rfl ?_
        refine o_guard_no rfl 76 rfl rfl rfl rfl rfl ?_
        refine o_guard_no rfl 76 rfl rfl rfl rfl rfl ?_
        refine o_pure (p_pick_false (v := .bool false) rfl rfl) rfl rfl rfl ?_
        exact o_sub (Sub.cons rfl (Sub.skip rfl (Sub.skip rfl (Sub.skip rfl (Sub.skip rfl (Sub.skip rfl (Sub.refl _))))))) hk
      refine o_pure (p_move (v := .bool ((((((Hash.sum s) == (0 : UInt64)) && ((Hash.sumErr s) == 2)) && ((Hash.reduce n most) == 0)) && ((Hash.reduceErr most) == 3)) && ((Hash.salted s salt) == (0 : UInt64)))) rfl) rfl rfl rfl ?_
      refine o_and (p := 85) 4 ((Hash.sumErr s) == 2) ?_ ?_ ?_
      · intro hb8 hk
        simp only [Bool.and_eq_true, beq_iff_eq] at hb8
        refine o_unguard 81 rfl rfl ?_
        refine o_pure (p_move (v := .int .i64 (Hash.sumErr s)) rfl) rfl rfl rfl ?_
        refine o_unguard 81 rfl rfl ?_
        refine o_pure (p_move (v := .int .i64 2) rfl) rfl rfl rfl ?_
        refine o_unguard 81 rfl rfl ?_
        refine o_pure (p_eq (p := (Hash.sumErr s)) (q := 2) rfl rfl) rfl rfl rfl ?_
        refine o_pure (p_pick_true (u := .bool ((Hash.sumErr s) == 2)) rfl rfl) rfl rfl rfl ?_
        exact o_sub (Sub.cons rfl (Sub.skip rfl (Sub.skip rfl (Sub.skip rfl (Sub.skip rfl (Sub.skip rfl (Sub.refl _))))))) hk
      · intro hb8 hk
        refine o_guard_no rfl 81 rfl rfl rfl rfl rfl ?_
        refine o_guard_no rfl 81 rfl rfl rfl rfl rfl ?_
        refine o_guard_no rfl 81 rfl rfl rfl rfl rfl ?_
        refine o_pure (p_pick_false (v := .bool false) rfl rfl) rfl rfl rfl ?_
        exact o_sub (Sub.cons rfl (Sub.skip rfl (Sub.skip rfl (Sub.skip rfl (Sub.skip rfl (Sub.skip rfl (Sub.refl _))))))) hk
      refine o_pure (p_move (v := .bool (((((((Hash.sum s) == (0 : UInt64)) && ((Hash.sumErr s) == 2)) && ((Hash.reduce n most) == 0)) && ((Hash.reduceErr most) == 3)) && ((Hash.salted s salt) == (0 : UInt64))) && ((Hash.sumErr s) == 2))) rfl) rfl rfl rfl ?_
      refine o_and (p := 92) 6 ((Hash.mix n) == (Hash.mix n)) ?_ ?_ ?_
      · intro hb9 hk
        simp only [Bool.and_eq_true, beq_iff_eq] at hb9
        refine o_unguard 86 rfl rfl ?_
        refine o_pure (p_move (v := .int .u64 (n.toNat : Int)) rfl) rfl rfl rfl ?_
        refine o_unguard 86 rfl rfl ?_
        refine o_call0 (v := .int .u64 ((Hash.mix n).toNat : Int)) rfl (mix_ok n) hf15 (fun _ _ => trivial) rfl ?_
        refine o_unguard 86 rfl rfl ?_
        refine o_pure (p_move (v := .int .u64 (n.toNat : Int)) rfl) rfl rfl rfl ?_
        refine o_unguard 86 rfl rfl ?_
        refine o_call0 (v := .int .u64 ((Hash.mix n).toNat : Int)) rfl (mixOf_ok n) hf22 (fun _ _ => trivial) rfl ?_
        refine o_unguard 86 rfl rfl ?_
        refine o_pure (pu_eq (p := (Hash.mix n)) (q := (Hash.mix n)) rfl rfl) rfl rfl rfl ?_
        refine o_pure (p_pick_true (u := .bool ((Hash.mix n) == (Hash.mix n))) rfl rfl) rfl rfl rfl ?_
        exact o_sub (Sub.cons rfl (Sub.skip rfl (Sub.skip rfl (Sub.skip rfl (Sub.skip rfl (Sub.skip rfl (Sub.skip rfl (Sub.skip rfl (Sub.refl _))))))))) hk
      · intro hb9 hk
        refine o_guard_no rfl 86 rfl rfl rfl rfl rfl ?_
        refine o_guard_no rfl 86 rfl rfl rfl rfl rfl ?_
        refine o_guard_no rfl 86 rfl rfl rfl rfl rfl ?_
        refine o_guard_no rfl 86 rfl rfl rfl rfl rfl ?_
        refine o_guard_no rfl 86 rfl rfl rfl rfl rfl ?_
        refine o_pure (p_pick_false (v := .bool false) rfl rfl) rfl rfl rfl ?_
        exact o_sub (Sub.cons rfl (Sub.skip rfl (Sub.skip rfl (Sub.skip rfl (Sub.skip rfl (Sub.skip rfl (Sub.skip rfl (Sub.skip rfl (Sub.refl _))))))))) hk
      refine o_pure (p_assign (v := .bool ((((((((Hash.sum s) == (0 : UInt64)) && ((Hash.sumErr s) == 2)) && ((Hash.reduce n most) == 0)) && ((Hash.reduceErr most) == 3)) && ((Hash.salted s salt) == (0 : UInt64))) && ((Hash.sumErr s) == 2)) && ((Hash.mix n) == (Hash.mix n)))) rfl) rfl rfl rfl ?_
      refine o_nil ?_
      refine q_then ?_
      refine c_ret ?_
      refine q_end0 (v := .bool ((((((((Hash.sum s) == (0 : UInt64)) && ((Hash.sumErr s) == 2)) && ((Hash.reduce n most) == 0)) && ((Hash.reduceErr most) == 3)) && ((Hash.salted s salt) == (0 : UInt64))) && ((Hash.sumErr s) == 2)) && ((Hash.mix n) == (Hash.mix n)))) (rt1 rfl (r_tmp rfl)) (i := 0) rfl ?_
      rcases Hash.sum_cases s salt with ⟨c1, s1, s2, s3⟩ | ⟨c1, s1, s2, s3⟩ <;> rcases Hash.reduce_cases n most with ⟨c2, r1, r2⟩ | ⟨c2, r1, r2⟩ <;> first | (exfalso; omega) | (rw [s1, s2, s3, r1, r2]; simp)
    · simp only [Bool.or_eq_false_iff, decide_eq_false_iff_not, Int.not_lt] at hc3
      refine c_region ?_
      refine o_pure (p_move (v := .int .u64 (n.toNat : Int)) rfl) rfl rfl rfl ?_
      refine o_pure (p_move (v := .int .i64 most) rfl) rfl rfl rfl ?_
      refine o_call0 (v := .int .i64 (Hash.rawFold n most)) rfl (mixFold_ok n most) hf23 (fun _ _ => trivial) rfl ?_
      refine o_pure (p_assign (v := .int .i64 (Hash.rawFold n most)) rfl) rfl rfl rfl ?_
      refine o_nil ?_
      refine q_then ?_
      refine c_seq ?_
      refine c_region ?_
      refine o_call0 (v := .bool true) rfl (mixBegun_ok ) hf16 (fun _ _ => trivial) rfl ?_
      refine o_pure (p_move (v := .bool true) rfl) rfl rfl rfl ?_
      refine o_unguard 56 rfl rfl ?_
      refine o_pure (p_move (v := .int .u64 ((Hash.sum s).toNat : Int)) rfl) rfl rfl rfl ?_
      refine o_unguard 56 rfl rfl ?_
      refine o_pure (p_move (v := .int .u64 ((0 : UInt64).toNat : Int)) rfl) rfl rfl rfl ?_
      refine o_unguard 56 rfl rfl ?_
      refine o_pure (pu_eq (p := (Hash.sum s)) (q := (0 : UInt64)) rfl rfl) rfl rfl rfl ?_
      refine o_pure (p_pick_true (u := .bool ((Hash.sum s) == (0 : UInt64))) rfl rfl) rfl rfl rfl ?_
      refine o_pure (p_move (v := .bool ((Hash.sum s) == (0 : UInt64))) rfl) rfl rfl rfl ?_
      refine o_and (p := 65) 4 ((Hash.sumErr s) == 2) ?_ ?_ ?_
      · intro hb10 hk
        simp only [beq_iff_eq] at hb10
        refine o_unguard 61 rfl rfl ?_
        refine o_pure (p_move (v := .int .i64 (Hash.sumErr s)) rfl) rfl rfl rfl ?_
        refine o_unguard 61 rfl rfl ?_
        refine o_pure (p_move (v := .int .i64 2) rfl) rfl rfl rfl ?_
        refine o_unguard 61 rfl rfl ?_
        refine o_pure (p_eq (p := (Hash.sumErr s)) (q := 2) rfl rfl) rfl rfl rfl ?_
        refine o_pure (p_pick_true (u := .bool ((Hash.sumErr s) == 2)) rfl rfl) rfl rfl rfl ?_
        exact o_sub (Sub.cons rfl (Sub.skip rfl (Sub.skip rfl (Sub.skip rfl (Sub.skip rfl (Sub.skip rfl (Sub.refl _))))))) hk
      · intro hb10 hk
        refine o_guard_no rfl 61 rfl rfl rfl rfl rfl ?_
        refine o_guard_no rfl 61 rfl rfl rfl rfl rfl ?_
        refine o_guard_no rfl 61 rfl rfl rfl rfl rfl ?_
        refine o_pure (p_pick_false (v := .bool false) rfl rfl) rfl rfl rfl ?_
        exact o_sub (Sub.cons rfl (Sub.skip rfl (Sub.skip rfl (Sub.skip rfl (Sub.skip rfl (Sub.skip rfl (Sub.refl _))))))) hk
      refine o_pure (p_move (v := .bool (((Hash.sum s) == (0 : UInt64)) && ((Hash.sumErr s) == 2))) rfl) rfl rfl rfl ?_
      refine o_and (p := 70) 4 ((Hash.reduce n most) == (Hash.rawFold n most)) ?_ ?_ ?_
      · intro hb11 hk
        simp only [Bool.and_eq_true, beq_iff_eq] at hb11
        refine o_unguard 66 rfl rfl ?_
        refine o_pure (p_move (v := .int .i64 (Hash.reduce n most)) rfl) rfl rfl rfl ?_
        refine o_unguard 66 rfl rfl ?_
        refine o_pure (p_move (v := .int .i64 (Hash.rawFold n most)) rfl) rfl rfl rfl ?_
        refine o_unguard 66 rfl rfl ?_
        refine o_pure (p_eq (p := (Hash.reduce n most)) (q := (Hash.rawFold n most)) rfl rfl) rfl rfl rfl ?_
        refine o_pure (p_pick_true (u := .bool ((Hash.reduce n most) == (Hash.rawFold n most))) rfl rfl) rfl rfl rfl ?_
        exact o_sub (Sub.cons rfl (Sub.skip rfl (Sub.skip rfl (Sub.skip rfl (Sub.skip rfl (Sub.skip rfl (Sub.refl _))))))) hk
      · intro hb11 hk
        refine o_guard_no rfl 66 rfl rfl rfl rfl rfl ?_
        refine o_guard_no rfl 66 rfl rfl rfl rfl rfl ?_
        refine o_guard_no rfl 66 rfl rfl rfl rfl rfl ?_
        refine o_pure (p_pick_false (v := .bool false) rfl rfl) rfl rfl rfl ?_
        exact o_sub (Sub.cons rfl (Sub.skip rfl (Sub.skip rfl (Sub.skip rfl (Sub.skip rfl (Sub.skip rfl (Sub.refl _))))))) hk
      refine o_pure (p_move (v := .bool ((((Hash.sum s) == (0 : UInt64)) && ((Hash.sumErr s) == 2)) && ((Hash.reduce n most) == (Hash.rawFold n most)))) rfl) rfl rfl rfl ?_
      refine o_and (p := 75) 4 ((Hash.reduceErr most) == 0) ?_ ?_ ?_
      · intro hb12 hk
        simp only [Bool.and_eq_true, beq_iff_eq] at hb12
        refine o_unguard 71 rfl rfl ?_
        refine o_pure (p_move (v := .int .i64 (Hash.reduceErr most)) rfl) rfl rfl rfl ?_
        refine o_unguard 71 rfl rfl ?_
        refine o_pure (p_move (v := .int .i64 0) rfl) rfl rfl rfl ?_
        refine o_unguard 71 rfl rfl ?_
        refine o_pure (p_eq (p := (Hash.reduceErr most)) (q := 0) rfl rfl) rfl rfl rfl ?_
        refine o_pure (p_pick_true (u := .bool ((Hash.reduceErr most) == 0)) rfl rfl) rfl rfl rfl ?_
        exact o_sub (Sub.cons rfl (Sub.skip rfl (Sub.skip rfl (Sub.skip rfl (Sub.skip rfl (Sub.skip rfl (Sub.refl _))))))) hk
      · intro hb12 hk
        refine o_guard_no rfl 71 rfl rfl rfl rfl rfl ?_
        refine o_guard_no rfl 71 rfl rfl rfl rfl rfl ?_
        refine o_guard_no rfl 71 rfl rfl rfl rfl rfl ?_
        refine o_pure (p_pick_false (v := .bool false) rfl rfl) rfl rfl rfl ?_
        exact o_sub (Sub.cons rfl (Sub.skip rfl (Sub.skip rfl (Sub.skip rfl (Sub.skip rfl (Sub.skip rfl (Sub.refl _))))))) hk
      refine o_pure (p_move (v := .bool (((((Hash.sum s) == (0 : UInt64)) && ((Hash.sumErr s) == 2)) && ((Hash.reduce n most) == (Hash.rawFold n most))) && ((Hash.reduceErr most) == 0))) rfl) rfl rfl rfl ?_
      refine o_and (p := 80) 4 ((Hash.salted s salt) == (0 : UInt64)) ?_ ?_ ?_
      · intro hb13 hk
        simp only [Bool.and_eq_true, beq_iff_eq] at hb13
        refine o_unguard 76 rfl rfl ?_
        refine o_pure (p_move (v := .int .u64 ((Hash.salted s salt).toNat : Int)) rfl) rfl rfl rfl ?_
        refine o_unguard 76 rfl rfl ?_
        refine o_pure (p_move (v := .int .u64 ((0 : UInt64).toNat : Int)) rfl) rfl rfl rfl ?_
        refine o_unguard 76 rfl rfl ?_
        refine o_pure (pu_eq (p := (Hash.salted s salt)) (q := (0 : UInt64)) rfl rfl) rfl rfl rfl ?_
        refine o_pure (p_pick_true (u := .bool ((Hash.salted s salt) == (0 : UInt64))) rfl rfl) rfl rfl rfl ?_
        exact o_sub (Sub.cons rfl (Sub.skip rfl (Sub.skip rfl (Sub.skip rfl (Sub.skip rfl (Sub.skip rfl (Sub.refl _))))))) hk
      · intro hb13 hk
        refine o_guard_no rfl 76 rfl rfl rfl rfl rfl ?_
        refine o_guard_no rfl 76 rfl rfl rfl rfl rfl ?_
        refine o_guard_no rfl 76 rfl rfl rfl rfl rfl ?_
        refine o_pure (p_pick_false (v := .bool false) rfl rfl) rfl rfl rfl ?_
        exact o_sub (Sub.cons rfl (Sub.skip rfl (Sub.skip rfl (Sub.skip rfl (Sub.skip rfl (Sub.skip rfl (Sub.refl _))))))) hk
      refine o_pure (p_move (v := .bool ((((((Hash.sum s) == (0 : UInt64)) && ((Hash.sumErr s) == 2)) && ((Hash.reduce n most) == (Hash.rawFold n most))) && ((Hash.reduceErr most) == 0)) && ((Hash.salted s salt) == (0 : UInt64)))) rfl) rfl rfl rfl ?_
      refine o_and (p := 85) 4 ((Hash.sumErr s) == 2) ?_ ?_ ?_
      · intro hb14 hk
        simp only [Bool.and_eq_true, beq_iff_eq] at hb14
        refine o_unguard 81 rfl rfl ?_
        refine o_pure (p_move (v := .int .i64 (Hash.sumErr s)) rfl) rfl rfl rfl ?_
        refine o_unguard 81 rfl rfl ?_
        refine o_pure (p_move (v := .int .i64 2) rfl) rfl rfl rfl ?_
        refine o_unguard 81 rfl rfl ?_
        refine o_pure (p_eq (p := (Hash.sumErr s)) (q := 2) rfl rfl) rfl rfl rfl ?_
        refine o_pure (p_pick_true (u := .bool ((Hash.sumErr s) == 2)) rfl rfl) rfl rfl rfl ?_
        exact o_sub (Sub.cons rfl (Sub.skip rfl (Sub.skip rfl (Sub.skip rfl (Sub.skip rfl (Sub.skip rfl (Sub.refl _))))))) hk
      · intro hb14 hk
        refine o_guard_no rfl 81 rfl rfl rfl rfl rfl ?_
        refine o_guard_no rfl 81 rfl rfl rfl rfl rfl ?_
        refine o_guard_no rfl 81 rfl rfl rfl rfl rfl ?_
        refine o_pure (p_pick_false (v := .bool false) rfl rfl) rfl rfl rfl ?_
        exact o_sub (Sub.cons rfl (Sub.skip rfl (Sub.skip rfl (Sub.skip rfl (Sub.skip rfl (Sub.skip rfl (Sub.refl _))))))) hk
      refine o_pure (p_move (v := .bool (((((((Hash.sum s) == (0 : UInt64)) && ((Hash.sumErr s) == 2)) && ((Hash.reduce n most) == (Hash.rawFold n most))) && ((Hash.reduceErr most) == 0)) && ((Hash.salted s salt) == (0 : UInt64))) && ((Hash.sumErr s) == 2))) rfl) rfl rfl rfl ?_
      refine o_and (p := 92) 6 ((Hash.mix n) == (Hash.mix n)) ?_ ?_ ?_
      · intro hb15 hk
        simp only [Bool.and_eq_true, beq_iff_eq] at hb15
        refine o_unguard 86 rfl rfl ?_
        refine o_pure (p_move (v := .int .u64 (n.toNat : Int)) rfl) rfl rfl rfl ?_
        refine o_unguard 86 rfl rfl ?_
        refine o_call0 (v := .int .u64 ((Hash.mix n).toNat : Int)) rfl (mix_ok n) hf15 (fun _ _ => trivial) rfl ?_
        refine o_unguard 86 rfl rfl ?_
        refine o_pure (p_move (v := .int .u64 (n.toNat : Int)) rfl) rfl rfl rfl ?_
        refine o_unguard 86 rfl rfl ?_
        refine o_call0 (v := .int .u64 ((Hash.mix n).toNat : Int)) rfl (mixOf_ok n) hf22 (fun _ _ => trivial) rfl ?_
        refine o_unguard 86 rfl rfl ?_
        refine o_pure (pu_eq (p := (Hash.mix n)) (q := (Hash.mix n)) rfl rfl) rfl rfl rfl ?_
        refine o_pure (p_pick_true (u := .bool ((Hash.mix n) == (Hash.mix n))) rfl rfl) rfl rfl rfl ?_
        exact o_sub (Sub.cons rfl (Sub.skip rfl (Sub.skip rfl (Sub.skip rfl (Sub.skip rfl (Sub.skip rfl (Sub.skip rfl (Sub.skip rfl (Sub.refl _))))))))) hk
      · intro hb15 hk
        refine o_guard_no rfl 86 rfl rfl rfl rfl rfl ?_
        refine o_guard_no rfl 86 rfl rfl rfl rfl rfl ?_
        refine o_guard_no rfl 86 rfl rfl rfl rfl rfl ?_
        refine o_guard_no rfl 86 rfl rfl rfl rfl rfl ?_
        refine o_guard_no rfl 86 rfl rfl rfl rfl rfl ?_
        refine o_pure (p_pick_false (v := .bool false) rfl rfl) rfl rfl rfl ?_
        exact o_sub (Sub.cons rfl (Sub.skip rfl (Sub.skip rfl (Sub.skip rfl (Sub.skip rfl (Sub.skip rfl (Sub.skip rfl (Sub.skip rfl (Sub.refl _))))))))) hk
      refine o_pure (p_assign (v := .bool ((((((((Hash.sum s) == (0 : UInt64)) && ((Hash.sumErr s) == 2)) && ((Hash.reduce n most) == (Hash.rawFold n most))) && ((Hash.reduceErr most) == 0)) && ((Hash.salted s salt) == (0 : UInt64))) && ((Hash.sumErr s) == 2)) && ((Hash.mix n) == (Hash.mix n)))) rfl) rfl rfl rfl ?_
      refine o_nil ?_
      refine q_then ?_
      refine c_ret ?_
      refine q_end0 (v := .bool ((((((((Hash.sum s) == (0 : UInt64)) && ((Hash.sumErr s) == 2)) && ((Hash.reduce n most) == (Hash.rawFold n most))) && ((Hash.reduceErr most) == 0)) && ((Hash.salted s salt) == (0 : UInt64))) && ((Hash.sumErr s) == 2)) && ((Hash.mix n) == (Hash.mix n)))) (rt1 rfl (r_tmp rfl)) (i := 0) rfl ?_
      rcases Hash.sum_cases s salt with ⟨c1, s1, s2, s3⟩ | ⟨c1, s1, s2, s3⟩ <;> rcases Hash.reduce_cases n most with ⟨c2, r1, r2⟩ | ⟨c2, r1, r2⟩ <;> first | (exfalso; omega) | (rw [s1, s2, s3, r1, r2]; simp)
  · simp only [decide_eq_false_iff_not, Int.not_lt] at hc1
    refine c_seq ?_
    refine c_region ?_
    refine o_pure (p_move (v := .string s) rfl) rfl rfl rfl ?_
    refine o_call0 (v := .int .u64 ((Hash.raw s).toNat : Int)) rfl (mixSum_ok s) hf21 (fun w hw => (by first | assumption | omega | decide | (rw [ByteArray.size_append]; omega) | simp)) rfl ?_
    refine o_pure (p_assign (v := .int .u64 ((Hash.raw s).toNat : Int)) rfl) rfl rfl rfl ?_
    refine o_nil ?_
    refine q_then ?_
    refine c_region ?_
    refine o_pure (p_move (v := .int .u64 ((Hash.raw s).toNat : Int)) rfl) rfl rfl rfl ?_
    refine o_pure (p_move (v := .int .u64 (salt.toNat : Int)) rfl) rfl rfl rfl ?_
    refine o_pure (pu_xor (p := (Hash.raw s)) (q := salt) rfl rfl) rfl rfl rfl ?_
    refine o_call0 (v := .int .u64 ((Hash.mix ((Hash.raw s) ^^^ salt)).toNat : Int)) rfl (mixOf_ok ((Hash.raw s) ^^^ salt)) hf22 (fun _ _ => trivial) rfl ?_
    refine o_pure (p_assign (v := .int .u64 ((Hash.mix ((Hash.raw s) ^^^ salt)).toNat : Int)) rfl) rfl rfl rfl ?_
    refine o_nil ?_
    refine q_then ?_
    refine c_seq ?_
    refine c_seq ?_
    refine c_region ?_
    refine o_pure (p_move (v := .int .i64 most) rfl) rfl rfl rfl ?_
    refine o_pure (p_lt (p := most) (q := 1) rfl rfl) rfl rfl rfl ?_
    refine o_pure (p_move (v := .bool (decide (most < 1))) rfl) rfl rfl rfl ?_
    refine o_or (p := 51) 3 (decide (1048576 < most)) ?_ ?_ ?_
    · intro hb16 hk
      simp only [decide_eq_false_iff_not, Int.not_lt] at hb16
      refine o_unguard 48 rfl rfl ?_
      refine o_pure (p_move (v := .int .i64 most) rfl) rfl rfl rfl ?_
      refine o_unguard 48 rfl rfl ?_
      refine o_pure (p_gt (p := most) (q := 1048576) rfl rfl) rfl rfl rfl ?_
      refine o_pure (p_pick_false (v := .bool (decide (1048576 < most))) rfl rfl) rfl rfl rfl ?_
      exact o_sub (Sub.cons rfl (Sub.skip rfl (Sub.skip rfl (Sub.skip rfl (Sub.skip rfl (Sub.refl _)))))) hk
    · intro hb16 hk
      refine o_guard_no rfl 48 rfl rfl rfl rfl rfl ?_
      refine o_guard_no rfl 48 rfl rfl rfl rfl rfl ?_
      refine o_pure (p_pick_true (u := .bool true) rfl rfl) rfl rfl rfl ?_
      exact o_sub (Sub.cons rfl (Sub.skip rfl (Sub.skip rfl (Sub.skip rfl (Sub.skip rfl (Sub.refl _)))))) hk
    refine o_nil ?_
    refine q_then ?_
    refine c_cond (b := (decide (most < 1) || decide (1048576 < most))) rfl (fun hc17 => ?_) (fun hc17 => ?_)
    · simp only [Bool.or_eq_true, decide_eq_true_eq] at hc17
      refine c_region ?_
      refine o_pure (p_assign (v := .int .i64 3) rfl) rfl rfl rfl ?_
      refine o_nil ?_
      refine q_then ?_
      refine c_seq ?_
      refine c_region ?_
      refine o_call0 (v := .bool true) rfl (mixBegun_ok ) hf16 (fun _ _ => trivial) rfl ?_
      refine o_pure (p_move (v := .bool true) rfl) rfl rfl rfl ?_
      refine o_unguard 56 rfl rfl ?_
      refine o_pure (p_move (v := .int .u64 ((Hash.sum s).toNat : Int)) rfl) rfl rfl rfl ?_
      refine o_unguard 56 rfl rfl ?_
      refine o_pure (p_move (v := .int .u64 ((Hash.raw s).toNat : Int)) rfl) rfl rfl rfl ?_
      refine o_unguard 56 rfl rfl ?_
      refine o_pure (pu_eq (p := (Hash.sum s)) (q := (Hash.raw s)) rfl rfl) rfl rfl rfl ?_
      refine o_pure (p_pick_true (u := .bool ((Hash.sum s) == (Hash.raw s))) rfl rfl) rfl rfl rfl ?_
      refine o_pure (p_move (v := .bool ((Hash.sum s) == (Hash.raw s))) rfl) rfl rfl rfl ?_
      refine o_and (p := 65) 4 ((Hash.sumErr s) == 0) ?_ ?_ ?_
      · intro hb18 hk
        simp only [beq_iff_eq] at hb18
        refine o_unguard 61 rfl rfl ?_
        refine o_pure (p_move (v := .int .i64 (Hash.sumErr s)) rfl) rfl rfl rfl ?_
        refine o_unguard 61 rfl rfl ?_
        refine o_pure (p_move (v := .int .i64 0) rfl) rfl rfl rfl ?_
        refine o_unguard 61 rfl rfl ?_
        refine o_pure (p_eq (p := (Hash.sumErr s)) (q := 0) rfl rfl) rfl rfl rfl ?_
        refine o_pure (p_pick_true (u := .bool ((Hash.sumErr s) == 0)) rfl rfl) rfl rfl rfl ?_
        exact o_sub (Sub.cons rfl (Sub.skip rfl (Sub.skip rfl (Sub.skip rfl (Sub.skip rfl (Sub.skip rfl (Sub.refl _))))))) hk
      · intro hb18 hk
        refine o_guard_no rfl 61 rfl rfl rfl rfl rfl ?_
        refine o_guard_no rfl 61 rfl rfl rfl rfl rfl ?_
        refine o_guard_no rfl 61 rfl rfl rfl rfl rfl ?_
        refine o_pure (p_pick_false (v := .bool false) rfl rfl) rfl rfl rfl ?_
        exact o_sub (Sub.cons rfl (Sub.skip rfl (Sub.skip rfl (Sub.skip rfl (Sub.skip rfl (Sub.skip rfl (Sub.refl _))))))) hk
      refine o_pure (p_move (v := .bool (((Hash.sum s) == (Hash.raw s)) && ((Hash.sumErr s) == 0))) rfl) rfl rfl rfl ?_
      refine o_and (p := 70) 4 ((Hash.reduce n most) == 0) ?_ ?_ ?_
      · intro hb19 hk
        simp only [Bool.and_eq_true, beq_iff_eq] at hb19
        refine o_unguard 66 rfl rfl ?_
        refine o_pure (p_move (v := .int .i64 (Hash.reduce n most)) rfl) rfl rfl rfl ?_
        refine o_unguard 66 rfl rfl ?_
        refine o_pure (p_move (v := .int .i64 0) rfl) rfl rfl rfl ?_
        refine o_unguard 66 rfl rfl ?_
        refine o_pure (p_eq (p := (Hash.reduce n most)) (q := 0) rfl rfl) rfl rfl rfl ?_
        refine o_pure (p_pick_true (u := .bool ((Hash.reduce n most) == 0)) rfl rfl) rfl rfl rfl ?_
        exact o_sub (Sub.cons rfl (Sub.skip rfl (Sub.skip rfl (Sub.skip rfl (Sub.skip rfl (Sub.skip rfl (Sub.refl _))))))) hk
      · intro hb19 hk
        refine o_guard_no rfl 66 rfl rfl rfl rfl rfl ?_
        refine o_guard_no rfl 66 rfl rfl rfl rfl rfl ?_
        refine o_guard_no rfl 66 rfl rfl rfl rfl rfl ?_
        refine o_pure (p_pick_false (v := .bool false) rfl rfl) rfl rfl rfl ?_
        exact o_sub (Sub.cons rfl (Sub.skip rfl (Sub.skip rfl (Sub.skip rfl (Sub.skip rfl (Sub.skip rfl (Sub.refl _))))))) hk
      refine o_pure (p_move (v := .bool ((((Hash.sum s) == (Hash.raw s)) && ((Hash.sumErr s) == 0)) && ((Hash.reduce n most) == 0))) rfl) rfl rfl rfl ?_
      refine o_and (p := 75) 4 ((Hash.reduceErr most) == 3) ?_ ?_ ?_
      · intro hb20 hk
        simp only [Bool.and_eq_true, beq_iff_eq] at hb20
        refine o_unguard 71 rfl rfl ?_
        refine o_pure (p_move (v := .int .i64 (Hash.reduceErr most)) rfl) rfl rfl rfl ?_
        refine o_unguard 71 rfl rfl ?_
        refine o_pure (p_move (v := .int .i64 3) rfl) rfl rfl rfl ?_
        refine o_unguard 71 rfl rfl ?_
        refine o_pure (p_eq (p := (Hash.reduceErr most)) (q := 3) rfl rfl) rfl rfl rfl ?_
        refine o_pure (p_pick_true (u := .bool ((Hash.reduceErr most) == 3)) rfl rfl) rfl rfl rfl ?_
        exact o_sub (Sub.cons rfl (Sub.skip rfl (Sub.skip rfl (Sub.skip rfl (Sub.skip rfl (Sub.skip rfl (Sub.refl _))))))) hk
      · intro hb20 hk
        refine o_guard_no rfl 71 rfl rfl rfl rfl rfl ?_
        refine o_guard_no rfl 71 rfl rfl rfl rfl rfl ?_
        refine o_guard_no rfl 71 rfl rfl rfl rfl rfl ?_
        refine o_pure (p_pick_false (v := .bool false) rfl rfl) rfl rfl rfl ?_
        exact o_sub (Sub.cons rfl (Sub.skip rfl (Sub.skip rfl (Sub.skip rfl (Sub.skip rfl (Sub.skip rfl (Sub.refl _))))))) hk
      refine o_pure (p_move (v := .bool (((((Hash.sum s) == (Hash.raw s)) && ((Hash.sumErr s) == 0)) && ((Hash.reduce n most) == 0)) && ((Hash.reduceErr most) == 3))) rfl) rfl rfl rfl ?_
      refine o_and (p := 80) 4 ((Hash.salted s salt) == (Hash.mix ((Hash.raw s) ^^^ salt))) ?_ ?_ ?_
      · intro hb21 hk
        simp only [Bool.and_eq_true, beq_iff_eq] at hb21
        refine o_unguard 76 rfl rfl ?_
        refine o_pure (p_move (v := .int .u64 ((Hash.salted s salt).toNat : Int)) rfl) rfl rfl rfl ?_
        refine o_unguard 76 rfl rfl ?_
        refine o_pure (p_move (v := .int .u64 ((Hash.mix ((Hash.raw s) ^^^ salt)).toNat : Int)) rfl) rfl rfl rfl ?_
        refine o_unguard 76 rfl rfl ?_
        refine o_pure (pu_eq (p := (Hash.salted s salt)) (q := (Hash.mix ((Hash.raw s) ^^^ salt))) rfl rfl) rfl rfl rfl ?_
        refine o_pure (p_pick_true (u := .bool ((Hash.salted s salt) == (Hash.mix ((Hash.raw s) ^^^ salt)))) rfl rfl) rfl rfl rfl ?_
        exact o_sub (Sub.cons rfl (Sub.skip rfl (Sub.skip rfl (Sub.skip rfl (Sub.skip rfl (Sub.skip rfl (Sub.refl _))))))) hk
      · intro hb21 hk
        refine o_guard_no rfl 76 rfl rfl rfl rfl rfl ?_
        refine o_guard_no rfl 76 rfl rfl rfl rfl rfl ?_
        refine o_guard_no rfl 76 rfl rfl rfl rfl rfl ?_
        refine o_pure (p_pick_false (v := .bool false) rfl rfl) rfl rfl rfl ?_
        exact o_sub (Sub.cons rfl (Sub.skip rfl (Sub.skip rfl (Sub.skip rfl (Sub.skip rfl (Sub.skip rfl (Sub.refl _))))))) hk
      refine o_pure (p_move (v := .bool ((((((Hash.sum s) == (Hash.raw s)) && ((Hash.sumErr s) == 0)) && ((Hash.reduce n most) == 0)) && ((Hash.reduceErr most) == 3)) && ((Hash.salted s salt) == (Hash.mix ((Hash.raw s) ^^^ salt))))) rfl) rfl rfl rfl ?_
      refine o_and (p := 85) 4 ((Hash.sumErr s) == 0) ?_ ?_ ?_
      · intro hb22 hk
        simp only [Bool.and_eq_true, beq_iff_eq] at hb22
        refine o_unguard 81 rfl rfl ?_
        refine o_pure (p_move (v := .int .i64 (Hash.sumErr s)) rfl) rfl rfl rfl ?_
        refine o_unguard 81 rfl rfl ?_
        refine o_pure (p_move (v := .int .i64 0) rfl) rfl rfl rfl ?_
        refine o_unguard 81 rfl rfl ?_
        refine o_pure (p_eq (p := (Hash.sumErr s)) (q := 0) rfl rfl) rfl rfl rfl ?_
        refine o_pure (p_pick_true (u := .bool ((Hash.sumErr s) == 0)) rfl rfl) rfl rfl rfl ?_
        exact o_sub (Sub.cons rfl (Sub.skip rfl (Sub.skip rfl (Sub.skip rfl (Sub.skip rfl (Sub.skip rfl (Sub.refl _))))))) hk
      · intro hb22 hk
        refine o_guard_no rfl 81 rfl rfl rfl rfl rfl ?_
        refine o_guard_no rfl 81 rfl rfl rfl rfl rfl ?_
        refine o_guard_no rfl 81 rfl rfl rfl rfl rfl ?_
        refine o_pure (p_pick_false (v := .bool false) rfl rfl) rfl rfl rfl ?_
        exact o_sub (Sub.cons rfl (Sub.skip rfl (Sub.skip rfl (Sub.skip rfl (Sub.skip rfl (Sub.skip rfl (Sub.refl _))))))) hk
      refine o_pure (p_move (v := .bool (((((((Hash.sum s) == (Hash.raw s)) && ((Hash.sumErr s) == 0)) && ((Hash.reduce n most) == 0)) && ((Hash.reduceErr most) == 3)) && ((Hash.salted s salt) == (Hash.mix ((Hash.raw s) ^^^ salt)))) && ((Hash.sumErr s) == 0))) rfl) rfl rfl rfl ?_
      refine o_and (p := 92) 6 ((Hash.mix n) == (Hash.mix n)) ?_ ?_ ?_
      · intro hb23 hk
        simp only [Bool.and_eq_true, beq_iff_eq] at hb23
        refine o_unguard 86 rfl rfl ?_
        refine o_pure (p_move (v := .int .u64 (n.toNat : Int)) rfl) rfl rfl rfl ?_
        refine o_unguard 86 rfl rfl ?_
        refine o_call0 (v := .int .u64 ((Hash.mix n).toNat : Int)) rfl (mix_ok n) hf15 (fun _ _ => trivial) rfl ?_
        refine o_unguard 86 rfl rfl ?_
        refine o_pure (p_move (v := .int .u64 (n.toNat : Int)) rfl) rfl rfl rfl ?_
        refine o_unguard 86 rfl rfl ?_
        refine o_call0 (v := .int .u64 ((Hash.mix n).toNat : Int)) rfl (mixOf_ok n) hf22 (fun _ _ => trivial) rfl ?_
        refine o_unguard 86 rfl rfl ?_
        refine o_pure (pu_eq (p := (Hash.mix n)) (q := (Hash.mix n)) rfl rfl) rfl rfl rfl ?_
        refine o_pure (p_pick_true (u := .bool ((Hash.mix n) == (Hash.mix n))) rfl rfl) rfl rfl rfl ?_
        exact o_sub (Sub.cons rfl (Sub.skip rfl (Sub.skip rfl (Sub.skip rfl (Sub.skip rfl (Sub.skip rfl (Sub.skip rfl (Sub.skip rfl (Sub.refl _))))))))) hk
      · intro hb23 hk
        refine o_guard_no rfl 86 rfl rfl rfl rfl rfl ?_
        refine o_guard_no rfl 86 rfl rfl rfl rfl rfl ?_
        refine o_guard_no rfl 86 rfl rfl rfl rfl rfl ?_
        refine o_guard_no rfl 86 rfl rfl rfl rfl rfl ?_
        refine o_guard_no rfl 86 rfl rfl rfl rfl rfl ?_
        refine o_pure (p_pick_false (v := .bool false) rfl rfl) rfl rfl rfl ?_
        exact o_sub (Sub.cons rfl (Sub.skip rfl (Sub.skip rfl (Sub.skip rfl (Sub.skip rfl (Sub.skip rfl (Sub.skip rfl (Sub.skip rfl (Sub.refl _))))))))) hk
      refine o_pure (p_assign (v := .bool ((((((((Hash.sum s) == (Hash.raw s)) && ((Hash.sumErr s) == 0)) && ((Hash.reduce n most) == 0)) && ((Hash.reduceErr most) == 3)) && ((Hash.salted s salt) == (Hash.mix ((Hash.raw s) ^^^ salt)))) && ((Hash.sumErr s) == 0)) && ((Hash.mix n) == (Hash.mix n)))) rfl) rfl rfl rfl ?_
      refine o_nil ?_
      refine q_then ?_
      refine c_ret ?_
      refine q_end0 (v := .bool ((((((((Hash.sum s) == (Hash.raw s)) && ((Hash.sumErr s) == 0)) && ((Hash.reduce n most) == 0)) && ((Hash.reduceErr most) == 3)) && ((Hash.salted s salt) == (Hash.mix ((Hash.raw s) ^^^ salt)))) && ((Hash.sumErr s) == 0)) && ((Hash.mix n) == (Hash.mix n)))) (rt1 rfl (r_tmp rfl)) (i := 0) rfl ?_
      rcases Hash.sum_cases s salt with ⟨c1, s1, s2, s3⟩ | ⟨c1, s1, s2, s3⟩ <;> rcases Hash.reduce_cases n most with ⟨c2, r1, r2⟩ | ⟨c2, r1, r2⟩ <;> first | (exfalso; omega) | (rw [s1, s2, s3, r1, r2]; simp)
    · simp only [Bool.or_eq_false_iff, decide_eq_false_iff_not, Int.not_lt] at hc17
      refine c_region ?_
      refine o_pure (p_move (v := .int .u64 (n.toNat : Int)) rfl) rfl rfl rfl ?_
      refine o_pure (p_move (v := .int .i64 most) rfl) rfl rfl rfl ?_
      refine o_call0 (v := .int .i64 (Hash.rawFold n most)) rfl (mixFold_ok n most) hf23 (fun _ _ => trivial) rfl ?_
      refine o_pure (p_assign (v := .int .i64 (Hash.rawFold n most)) rfl) rfl rfl rfl ?_
      refine o_nil ?_
      refine q_then ?_
      refine c_seq ?_
      refine c_region ?_
      refine o_call0 (v := .bool true) rfl (mixBegun_ok ) hf16 (fun _ _ => trivial) rfl ?_
      refine o_pure (p_move (v := .bool true) rfl) rfl rfl rfl ?_
      refine o_unguard 56 rfl rfl ?_
      refine o_pure (p_move (v := .int .u64 ((Hash.sum s).toNat : Int)) rfl) rfl rfl rfl ?_
      refine o_unguard 56 rfl rfl ?_
      refine o_pure (p_move (v := .int .u64 ((Hash.raw s).toNat : Int)) rfl) rfl rfl rfl ?_
      refine o_unguard 56 rfl rfl ?_
      refine o_pure (pu_eq (p := (Hash.sum s)) (q := (Hash.raw s)) rfl rfl) rfl rfl rfl ?_
      refine o_pure (p_pick_true (u := .bool ((Hash.sum s) == (Hash.raw s))) rfl rfl) rfl rfl rfl ?_
      refine o_pure (p_move (v := .bool ((Hash.sum s) == (Hash.raw s))) rfl) rfl rfl rfl ?_
      refine o_and (p := 65) 4 ((Hash.sumErr s) == 0) ?_ ?_ ?_
      · intro hb24 hk
        simp only [beq_iff_eq] at hb24
        refine o_unguard 61 rfl rfl ?_
        refine o_pure (p_move (v := .int .i64 (Hash.sumErr s)) rfl) rfl rfl rfl ?_
        refine o_unguard 61 rfl rfl ?_
        refine o_pure (p_move (v := .int .i64 0) rfl) rfl rfl rfl ?_
        refine o_unguard 61 rfl rfl ?_
        refine o_pure (p_eq (p := (Hash.sumErr s)) (q := 0) rfl rfl) rfl rfl rfl ?_
        refine o_pure (p_pick_true (u := .bool ((Hash.sumErr s) == 0)) rfl rfl) rfl rfl rfl ?_
        exact o_sub (Sub.cons rfl (Sub.skip rfl (Sub.skip rfl (Sub.skip rfl (Sub.skip rfl (Sub.skip rfl (Sub.refl _))))))) hk
      · intro hb24 hk
        refine o_guard_no rfl 61 rfl rfl rfl rfl rfl ?_
        refine o_guard_no rfl 61 rfl rfl rfl rfl rfl ?_
        refine o_guard_no rfl 61 rfl rfl rfl rfl rfl ?_
        refine o_pure (p_pick_false (v := .bool false) rfl rfl) rfl rfl rfl ?_
        exact o_sub (Sub.cons rfl (Sub.skip rfl (Sub.skip rfl (Sub.skip rfl (Sub.skip rfl (Sub.skip rfl (Sub.refl _))))))) hk
      refine o_pure (p_move (v := .bool (((Hash.sum s) == (Hash.raw s)) && ((Hash.sumErr s) == 0))) rfl) rfl rfl rfl ?_
      refine o_and (p := 70) 4 ((Hash.reduce n most) == (Hash.rawFold n most)) ?_ ?_ ?_
      · intro hb25 hk
        simp only [Bool.and_eq_true, beq_iff_eq] at hb25
        refine o_unguard 66 rfl rfl ?_
        refine o_pure (p_move (v := .int .i64 (Hash.reduce n most)) rfl) rfl rfl rfl ?_
        refine o_unguard 66 rfl rfl ?_
        refine o_pure (p_move (v := .int .i64 (Hash.rawFold n most)) rfl) rfl rfl rfl ?_
        refine o_unguard 66 rfl rfl ?_
        refine o_pure (p_eq (p := (Hash.reduce n most)) (q := (Hash.rawFold n most)) rfl rfl) rfl rfl rfl ?_
        refine o_pure (p_pick_true (u := .bool ((Hash.reduce n most) == (Hash.rawFold n most))) rfl rfl) rfl rfl rfl ?_
        exact o_sub (Sub.cons rfl (Sub.skip rfl (Sub.skip rfl (Sub.skip rfl (Sub.skip rfl (Sub.skip rfl (Sub.refl _))))))) hk
      · intro hb25 hk
        refine o_guard_no rfl 66 rfl rfl rfl rfl rfl ?_
        refine o_guard_no rfl 66 rfl rfl rfl rfl rfl ?_
        refine o_guard_no rfl 66 rfl rfl rfl rfl rfl ?_
        refine o_pure (p_pick_false (v := .bool false) rfl rfl) rfl rfl rfl ?_
        exact o_sub (Sub.cons rfl (Sub.skip rfl (Sub.skip rfl (Sub.skip rfl (Sub.skip rfl (Sub.skip rfl (Sub.refl _))))))) hk
      refine o_pure (p_move (v := .bool ((((Hash.sum s) == (Hash.raw s)) && ((Hash.sumErr s) == 0)) && ((Hash.reduce n most) == (Hash.rawFold n most)))) rfl) rfl rfl rfl ?_
      refine o_and (p := 75) 4 ((Hash.reduceErr most) == 0) ?_ ?_ ?_
      · intro hb26 hk
        simp only [Bool.and_eq_true, beq_iff_eq] at hb26
        refine o_unguard 71 rfl rfl ?_
        refine o_pure (p_move (v := .int .i64 (Hash.reduceErr most)) rfl) rfl rfl rfl ?_
        refine o_unguard 71 rfl rfl ?_
        refine o_pure (p_move (v := .int .i64 0) rfl) rfl rfl rfl ?_
        refine o_unguard 71 rfl rfl ?_
        refine o_pure (p_eq (p := (Hash.reduceErr most)) (q := 0) rfl rfl) rfl rfl rfl ?_
        refine o_pure (p_pick_true (u := .bool ((Hash.reduceErr most) == 0)) rfl rfl) rfl rfl rfl ?_
        exact o_sub (Sub.cons rfl (Sub.skip rfl (Sub.skip rfl (Sub.skip rfl (Sub.skip rfl (Sub.skip rfl (Sub.refl _))))))) hk
      · intro hb26 hk
        refine o_guard_no rfl 71 rfl rfl rfl rfl rfl ?_
        refine o_guard_no rfl 71 rfl rfl rfl rfl rfl ?_
        refine o_guard_no rfl 71 rfl rfl rfl rfl rfl ?_
        refine o_pure (p_pick_false (v := .bool false) rfl rfl) rfl rfl rfl ?_
        exact o_sub (Sub.cons rfl (Sub.skip rfl (Sub.skip rfl (Sub.skip rfl (Sub.skip rfl (Sub.skip rfl (Sub.refl _))))))) hk
      refine o_pure (p_move (v := .bool (((((Hash.sum s) == (Hash.raw s)) && ((Hash.sumErr s) == 0)) && ((Hash.reduce n most) == (Hash.rawFold n most))) && ((Hash.reduceErr most) == 0))) rfl) rfl rfl rfl ?_
      refine o_and (p := 80) 4 ((Hash.salted s salt) == (Hash.mix ((Hash.raw s) ^^^ salt))) ?_ ?_ ?_
      · intro hb27 hk
        simp only [Bool.and_eq_true, beq_iff_eq] at hb27
        refine o_unguard 76 rfl rfl ?_
        refine o_pure (p_move (v := .int .u64 ((Hash.salted s salt).toNat : Int)) rfl) rfl rfl rfl ?_
        refine o_unguard 76 rfl rfl ?_
        refine o_pure (p_move (v := .int .u64 ((Hash.mix ((Hash.raw s) ^^^ salt)).toNat : Int)) rfl) rfl rfl rfl ?_
        refine o_unguard 76 rfl rfl ?_
        refine o_pure (pu_eq (p := (Hash.salted s salt)) (q := (Hash.mix ((Hash.raw s) ^^^ salt))) rfl rfl) rfl rfl rfl ?_
        refine o_pure (p_pick_true (u := .bool ((Hash.salted s salt) == (Hash.mix ((Hash.raw s) ^^^ salt)))) rfl rfl) rfl rfl rfl ?_
        exact o_sub (Sub.cons rfl (Sub.skip rfl (Sub.skip rfl (Sub.skip rfl (Sub.skip rfl (Sub.skip rfl (Sub.refl _))))))) hk
      · intro hb27 hk
        refine o_guard_no rfl 76 rfl rfl rfl rfl rfl ?_
        refine o_guard_no rfl 76 rfl rfl rfl rfl rfl ?_
        refine o_guard_no rfl 76 rfl rfl rfl rfl rfl ?_
        refine o_pure (p_pick_false (v := .bool false) rfl rfl) rfl rfl rfl ?_
        exact o_sub (Sub.cons rfl (Sub.skip rfl (Sub.skip rfl (Sub.skip rfl (Sub.skip rfl (Sub.skip rfl (Sub.refl _))))))) hk
      refine o_pure (p_move (v := .bool ((((((Hash.sum s) == (Hash.raw s)) && ((Hash.sumErr s) == 0)) && ((Hash.reduce n most) == (Hash.rawFold n most))) && ((Hash.reduceErr most) == 0)) && ((Hash.salted s salt) == (Hash.mix ((Hash.raw s) ^^^ salt))))) rfl) rfl rfl rfl ?_
      refine o_and (p := 85) 4 ((Hash.sumErr s) == 0) ?_ ?_ ?_
      · intro hb28 hk
        simp only [Bool.and_eq_true, beq_iff_eq] at hb28
        refine o_unguard 81 rfl rfl ?_
        refine o_pure (p_move (v := .int .i64 (Hash.sumErr s)) rfl) rfl rfl rfl ?_
        refine o_unguard 81 rfl rfl ?_
        refine o_pure (p_move (v := .int .i64 0) rfl) rfl rfl rfl ?_
        refine o_unguard 81 rfl rfl ?_
        refine o_pure (p_eq (p := (Hash.sumErr s)) (q := 0) rfl rfl) rfl rfl rfl ?_
        refine o_pure (p_pick_true (u := .bool ((Hash.sumErr s) == 0)) rfl rfl) rfl rfl rfl ?_
        exact o_sub (Sub.cons rfl (Sub.skip rfl (Sub.skip rfl (Sub.skip rfl (Sub.skip rfl (Sub.skip rfl (Sub.refl _))))))) hk
      · intro hb28 hk
        refine o_guard_no rfl 81 rfl rfl rfl rfl rfl ?_
        refine o_guard_no rfl 81 rfl rfl rfl rfl rfl ?_
        refine o_guard_no rfl 81 rfl rfl rfl rfl rfl ?_
        refine o_pure (p_pick_false (v := .bool false) rfl rfl) rfl rfl rfl ?_
        exact o_sub (Sub.cons rfl (Sub.skip rfl (Sub.skip rfl (Sub.skip rfl (Sub.skip rfl (Sub.skip rfl (Sub.refl _))))))) hk
      refine o_pure (p_move (v := .bool (((((((Hash.sum s) == (Hash.raw s)) && ((Hash.sumErr s) == 0)) && ((Hash.reduce n most) == (Hash.rawFold n most))) && ((Hash.reduceErr most) == 0)) && ((Hash.salted s salt) == (Hash.mix ((Hash.raw s) ^^^ salt)))) && ((Hash.sumErr s) == 0))) rfl) rfl rfl rfl ?_
      refine o_and (p := 92) 6 ((Hash.mix n) == (Hash.mix n)) ?_ ?_ ?_
      · intro hb29 hk
        simp only [Bool.and_eq_true, beq_iff_eq] at hb29
        refine o_unguard 86 rfl rfl ?_
        refine o_pure (p_move (v := .int .u64 (n.toNat : Int)) rfl) rfl rfl rfl ?_
        refine o_unguard 86 rfl rfl ?_
        refine o_call0 (v := .int .u64 ((Hash.mix n).toNat : Int)) rfl (mix_ok n) hf15 (fun _ _ => trivial) rfl ?_
        refine o_unguard 86 rfl rfl ?_
        refine o_pure (p_move (v := .int .u64 (n.toNat : Int)) rfl) rfl rfl rfl ?_
        refine o_unguard 86 rfl rfl ?_
        refine o_call0 (v := .int .u64 ((Hash.mix n).toNat : Int)) rfl (mixOf_ok n) hf22 (fun _ _ => trivial) rfl ?_
        refine o_unguard 86 rfl rfl ?_
        refine o_pure (pu_eq (p := (Hash.mix n)) (q := (Hash.mix n)) rfl rfl) rfl rfl rfl ?_
        refine o_pure (p_pick_true (u := .bool ((Hash.mix n) == (Hash.mix n))) rfl rfl) rfl rfl rfl ?_
        exact o_sub (Sub.cons rfl (Sub.skip rfl (Sub.skip rfl (Sub.skip rfl (Sub.skip rfl (Sub.skip rfl (Sub.skip rfl (Sub.skip rfl (Sub.refl _))))))))) hk
      · intro hb29 hk
        refine o_guard_no rfl 86 rfl rfl rfl rfl rfl ?_
        refine o_guard_no rfl 86 rfl rfl rfl rfl rfl ?_
        refine o_guard_no rfl 86 rfl rfl rfl rfl rfl ?_
        refine o_guard_no rfl 86 rfl rfl rfl rfl rfl ?_
        refine o_guard_no rfl 86 rfl rfl rfl rfl rfl ?_
        refine o_pure (p_pick_false (v := .bool false) rfl rfl) rfl rfl rfl ?_
        exact o_sub (Sub.cons rfl (Sub.skip rfl (Sub.skip rfl (Sub.skip rfl (Sub.skip rfl (Sub.skip rfl (Sub.skip rfl (Sub.skip rfl (Sub.refl _))))))))) hk
      refine o_pure (p_assign (v := .bool ((((((((Hash.sum s) == (Hash.raw s)) && ((Hash.sumErr s) == 0)) && ((Hash.reduce n most) == (Hash.rawFold n most))) && ((Hash.reduceErr most) == 0)) && ((Hash.salted s salt) == (Hash.mix ((Hash.raw s) ^^^ salt)))) && ((Hash.sumErr s) == 0)) && ((Hash.mix n) == (Hash.mix n)))) rfl) rfl rfl rfl ?_
      refine o_nil ?_
      refine q_then ?_
      refine c_ret ?_
      refine q_end0 (v := .bool ((((((((Hash.sum s) == (Hash.raw s)) && ((Hash.sumErr s) == 0)) && ((Hash.reduce n most) == (Hash.rawFold n most))) && ((Hash.reduceErr most) == 0)) && ((Hash.salted s salt) == (Hash.mix ((Hash.raw s) ^^^ salt)))) && ((Hash.sumErr s) == 0)) && ((Hash.mix n) == (Hash.mix n)))) (rt1 rfl (r_tmp rfl)) (i := 0) rfl ?_
      rcases Hash.sum_cases s salt with ⟨c1, s1, s2, s3⟩ | ⟨c1, s1, s2, s3⟩ <;> rcases Hash.reduce_cases n most with ⟨c2, r1, r2⟩ | ⟨c2, r1, r2⟩ <;> first | (exfalso; omega) | (rw [s1, s2, s3, r1, r2]; simp)
end Go.Proofs.Ythbfdhphnofacaa
