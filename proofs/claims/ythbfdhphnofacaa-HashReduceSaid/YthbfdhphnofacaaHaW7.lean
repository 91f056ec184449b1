/- The walks, printed by a program from the translation and a specification. -/
import Derived.Test.YthbfdhphnofacaaHaF
import Derived.Test.YthbfdhphnofacaaHaPure
import Derived.Test.YthbfdhphnofacaaHaW5
import Derived.Test.YthbfdhphnofacaaHaLaw2
namespace Go.Proofs.Ythbfdhphnofacaa
open Go.Sx Go.RowKit
set_option maxHeartbeats 8000000 in
set_option maxRecDepth 100000 in
theorem hashReduce_ok (a : UInt64) (b : UInt64) (most : Int) : Fn0 Try.prog 4 [.int .u64 (a.toNat : Int), .int .u64 (b.toNat : Int), .int .i64 most] (fun _ => True) (.bool true) := by
  refine fn0 (nt := 110) (F0 := [(0, .int .u64 (a.toNat : Int)), (1, .int .u64 (b.toNat : Int)), (2, .int .i64 most)]) Try.func4 rfl Try.ntmps4 rfl rfl (fun w0 hpre => ?_)
  refine c_seq ?_
  refine c_region ?_
  refine o_pure (p_assign (v := .bool false) rfl) rfl rfl rfl ?_
  refine o_nil ?_
  refine q_then ?_
  refine c_seq ?_
  refine c_region ?_
  refine o_pure (p_move (v := .int .u64 (a.toNat : Int)) rfl) rfl rfl rfl ?_
  refine o_pure (p_move (v := .int .i64 most) rfl) rfl rfl rfl ?_
  refine o_call0 (v := .tuple #[.int .i64 (Hash.reduce a most), .int .i64 (Hash.reduceErr most)]) rfl (reduce_ok a most) hf18 (fun _ _ => trivial) rfl ?_
  refine o_pure (p_move (v := .tuple #[.int .i64 (Hash.reduce a most), .int .i64 (Hash.reduceErr most)]) rfl) rfl rfl rfl ?_
  refine o_pure (p_extract (vs := [.int .i64 (Hash.reduce a most), .int .i64 (Hash.reduceErr most)]) (v := .int .i64 (Hash.reduce a most)) rfl rfl) rfl rfl rfl ?_
  refine o_pure (p_extract (vs := [.int .i64 (Hash.reduce a most), .int .i64 (Hash.reduceErr most)]) (v := .int .i64 (Hash.reduceErr most)) rfl rfl) rfl rfl rfl ?_
  refine o_pure (p_assign (v := .int .i64 (Hash.reduce a most)) rfl) rfl rfl rfl ?_
  refine o_pure (p_assign (v := .int .i64 (Hash.reduceErr most)) rfl) rfl rfl rfl ?_
  refine o_nil ?_
  refine q_then ?_
  refine c_seq ?_
  refine c_region ?_
  refine o_pure (p_move (v := .int .u64 (b.toNat : Int)) rfl) rfl rfl rfl ?_
  refine o_pure (p_move (v := .int .i64 most) rfl) rfl rfl rfl ?_
  refine o_call0 (v := .tuple #[.int .i64 (Hash.reduce b most), .int .i64 (Hash.reduceErr most)]) rfl (reduce_ok b most) hf18 (fun _ _ => trivial) rfl ?_
  refine o_pure (p_move (v := .tuple #[.int .i64 (Hash.reduce b most), .int .i64 (Hash.reduceErr most)]) rfl) rfl rfl rfl ?_
  refine o_pure (p_extract (vs := [.int .i64 (Hash.reduce b most), .int .i64 (Hash.reduceErr most)]) (v := .int .i64 (Hash.reduce b most)) rfl rfl) rfl rfl rfl ?_
  refine o_pure (p_extract (vs := [.int .i64 (Hash.reduce b most), .int .i64 (Hash.reduceErr most)]) (v := .int .i64 (Hash.reduceErr most)) rfl rfl) rfl rfl rfl ?_
  refine o_pure (p_assign (v := .int .i64 (Hash.reduce b most)) rfl) rfl rfl rfl ?_
  refine o_pure (p_assign (v := .int .i64 (Hash.reduceErr most)) rfl) rfl rfl rfl ?_
  refine o_nil ?_
  refine q_then ?_
  refine c_seq ?_
  refine c_seq ?_
  refine c_region ?_
  refine o_call0 (v := .bool true) rfl (mixBegun_ok ) hf16 (fun _ _ => trivial) rfl ?_
  refine o_pure (p_not (b := true) rfl) rfl rfl rfl ?_
  refine o_nil ?_
  refine q_then ?_
  refine c_false rfl ?_
  refine c_skip ?_
  refine q_then ?_
  refine c_seq ?_
  refine c_seq ?_
  refine c_region ?_
  refine o_pure (p_move (v := .int .i64 (Hash.reduceErr most)) rfl) rfl rfl rfl ?_
  refine o_pure (p_ne (p := (Hash.reduceErr most)) (q := 0) rfl rfl) rfl rfl rfl ?_
  refine o_pure (p_move (v := .bool ((Hash.reduceErr most) != 0)) rfl) rfl rfl rfl ?_
  refine o_or (p := 36) 3 ((Hash.reduceErr most) != 0) ?_ ?_ ?_
  · intro hb1 hk
    simp only [bne_eq_false_iff_eq] at hb1
    refine o_unguard 33 rfl rfl ?_
    refine o_pure (p_move (v := .int .i64 (Hash.reduceErr most)) rfl) rfl rfl rfl ?_
    refine o_unguard 33 rfl rfl ?_
    refine o_pure (p_ne (p := (Hash.reduceErr most)) (q := 0) rfl rfl) rfl rfl rfl ?_
    refine o_pure (p_pick_false (v := .bool ((Hash.reduceErr most) != 0)) rfl rfl) rfl rfl rfl ?_
    exact o_sub (Sub.cons rfl (Sub.skip rfl (Sub.skip rfl (Sub.skip rfl (Sub.skip rfl (Sub.refl _)))))) hk
  · intro hb1 hk
    refine o_guard_no rfl 33 rfl rfl rfl rfl rfl ?_
    refine o_guard_no rfl 33 rfl rfl rfl rfl rfl ?_
    refine o_pure (p_pick_true (u := .bool true) rfl rfl) rfl rfl rfl ?_
    exact o_sub (Sub.cons rfl (Sub.skip rfl (Sub.skip rfl (Sub.skip rfl (Sub.skip rfl (Sub.refl _)))))) hk
  refine o_nil ?_
  refine q_then ?_
  refine c_cond (b := (((Hash.reduceErr most) != 0) || ((Hash.reduceErr most) != 0))) rfl (fun hc2 => ?_) (fun hc2 => ?_)
  · simp only [Bool.or_eq_true, bne_iff_ne, ne_eq] at hc2
    refine c_seq ?_
    refine c_region ?_
    refine o_pure (p_move (v := .int .i64 (Hash.reduceErr most)) rfl) rfl rfl rfl ?_
    refine o_pure (p_move (v := .int .i64 (Hash.reduceErr most)) rfl) rfl rfl rfl ?_
    refine o_pure (p_eq (p := (Hash.reduceErr most)) (q := (Hash.reduceErr most)) rfl rfl) rfl rfl rfl ?_
    refine o_pure (p_move (v := .bool ((Hash.reduceErr most) == (Hash.reduceErr most))) rfl) rfl rfl rfl ?_
    refine o_and (p := 43) 3 ((Hash.reduce a most) == 0) ?_ ?_ ?_
    · intro hb3 hk
      simp only [beq_iff_eq] at hb3
      refine o_unguard 40 rfl rfl ?_
      refine o_pure (p_move (v := .int .i64 (Hash.reduce a most)) rfl) rfl rfl rfl ?_
      refine o_unguard 40 rfl rfl ?_
      refine o_pure (p_eq (p := (Hash.reduce a most)) (q := 0) rfl rfl) rfl rfl rfl ?_
      refine o_pure (p_pick_true (u := .bool ((Hash.reduce a most) == 0)) rfl rfl) rfl rfl rfl ?_
      exact o_sub (Sub.cons rfl (Sub.skip rfl (Sub.skip rfl (Sub.skip rfl (Sub.skip rfl (Sub.refl _)))))) hk
    · intro hb3 hk
      refine o_guard_no rfl 40 rfl rfl rfl rfl rfl ?_
      refine o_guard_no rfl 40 rfl rfl rfl rfl rfl ?_
      refine o_pure (p_pick_false (v := .bool false) rfl rfl) rfl rfl rfl ?_
      exact o_sub (Sub.cons rfl (Sub.skip rfl (Sub.skip rfl (Sub.skip rfl (Sub.skip rfl (Sub.refl _)))))) hk
    refine o_pure (p_move (v := .bool (((Hash.reduceErr most) == (Hash.reduceErr most)) && ((Hash.reduce a most) == 0))) rfl) rfl rfl rfl ?_
    refine o_and (p := 47) 3 ((Hash.reduce b most) == 0) ?_ ?_ ?_
    · intro hb4 hk
      simp only [Bool.and_eq_true, beq_iff_eq] at hb4
      refine o_unguard 44 rfl rfl ?_
      refine o_pure (p_move (v := .int .i64 (Hash.reduce b most)) rfl) rfl rfl rfl ?_
      refine o_unguard 44 rfl rfl ?_
      refine o_pure (p_eq (p := (Hash.reduce b most)) (q := 0) rfl rfl) rfl rfl rfl ?_
      refine o_pure (p_pick_true (u := .bool ((Hash.reduce b most) == 0)) rfl rfl) rfl rfl rfl ?_
      exact o_sub (Sub.cons rfl (Sub.skip rfl (Sub.skip rfl (Sub.skip rfl (Sub.skip rfl (Sub.refl _)))))) hk
    · intro hb4 hk
      refine o_guard_no rfl 44 rfl rfl rfl rfl rfl ?_
      refine o_guard_no rfl 44 rfl rfl rfl rfl rfl ?_
      refine o_pure (p_pick_false (v := .bool false) rfl rfl) rfl rfl rfl ?_
      exact o_sub (Sub.cons rfl (Sub.skip rfl (Sub.skip rfl (Sub.skip rfl (Sub.skip rfl (Sub.refl _)))))) hk
    refine o_pure (p_assign (v := .bool ((((Hash.reduceErr most) == (Hash.reduceErr most)) && ((Hash.reduce a most) == 0)) && ((Hash.reduce b most) == 0))) rfl) rfl rfl rfl ?_
    refine o_nil ?_
    refine q_then ?_
    refine c_ret ?_
    refine q_then_ret ?_
    refine q_end0 (v := .bool ((((Hash.reduceErr most) == (Hash.reduceErr most)) && ((Hash.reduce a most) == 0)) && ((Hash.reduce b most) == 0))) (rt1 rfl (r_tmp rfl)) (i := 0) rfl ?_
    first | exact congrArg Value.bool (Hash.reduce_bool a b (by assumption) (by omega)) | (have hz := Hash.reduce_zero (by assumption : Hash.reduceErr most ≠ 0 ∨ Hash.reduceErr most ≠ 0); simp [hz])
  · simp only [Bool.or_eq_false_iff, bne_eq_false_iff_eq] at hc2
    have hm := Hash.reduceOk hc2.1
    refine c_skip ?_
    refine q_then ?_
    refine c_seq ?_
    refine c_region ?_
    refine o_pure (p_move (v := .int .u64 (a.toNat : Int)) rfl) rfl rfl rfl ?_
    refine o_pure (p_move (v := .int .i64 most) rfl) rfl rfl rfl ?_
    refine o_pure (p_mul (p := 2) (q := most) rfl rfl) rfl rfl rfl ?_
    refine o_call0 (v := .tuple #[.int .i64 (Hash.reduce a (IntKind.i64.wrap (2 * most))), .int .i64 (Hash.reduceErr (IntKind.i64.wrap (2 * most)))]) rfl (reduce_ok a (IntKind.i64.wrap (2 * most))) hf18 (fun _ _ => trivial) rfl ?_
    refine o_pure (p_move (v := .tuple #[.int .i64 (Hash.reduce a (IntKind.i64.wrap (2 * most))), .int .i64 (Hash.reduceErr (IntKind.i64.wrap (2 * most)))]) rfl) rfl rfl rfl ?_
    refine o_pure (p_extract (vs := [.int .i64 (Hash.reduce a (IntKind.i64.wrap (2 * most))), .int .i64 (Hash.reduceErr (IntKind.i64.wrap (2 * most)))]) (v := .int .i64 (Hash.reduce a (IntKind.i64.wrap (2 * most)))) rfl rfl) rfl rfl rfl ?_
    refine o_pure (p_extract (vs := [.int .i64 (Hash.reduce a (IntKind.i64.wrap (2 * most))), .int .i64 (Hash.reduceErr (IntKind.i64.wrap (2 * most)))]) (v := .int .i64 (Hash.reduceErr (IntKind.i64.wrap (2 * most)))) rfl rfl) rfl rfl rfl ?_
    refine o_pure (p_assign (v := .int .i64 (Hash.reduce a (IntKind.i64.wrap (2 * most)))) rfl) rfl rfl rfl ?_
    refine o_pure (p_assign (v := .int .i64 (Hash.reduceErr (IntKind.i64.wrap (2 * most)))) rfl) rfl rfl rfl ?_
    refine o_nil ?_
    refine q_then ?_
    refine c_seq ?_
    refine c_region ?_
    refine o_pure (p_move (v := .int .i64 most) rfl) rfl rfl rfl ?_
    refine o_call0 (v := .tuple #[.int .i64 (Hash.reduce (0 : UInt64) most), .int .i64 (Hash.reduceErr most)]) rfl (reduce_ok (0 : UInt64) most) hf18 (fun _ _ => trivial) rfl ?_
    refine o_pure (p_move (v := .tuple #[.int .i64 (Hash.reduce (0 : UInt64) most), .int .i64 (Hash.reduceErr most)]) rfl) rfl rfl rfl ?_
    refine o_pure (p_extract (vs := [.int .i64 (Hash.reduce (0 : UInt64) most), .int .i64 (Hash.reduceErr most)]) (v := .int .i64 (Hash.reduce (0 : UInt64) most)) rfl rfl) rfl rfl rfl ?_
    refine o_pure (p_extract (vs := [.int .i64 (Hash.reduce (0 : UInt64) most), .int .i64 (Hash.reduceErr most)]) (v := .int .i64 (Hash.reduceErr most)) rfl rfl) rfl rfl rfl ?_
    refine o_pure (p_assign (v := .int .i64 (Hash.reduce (0 : UInt64) most)) rfl) rfl rfl rfl ?_
    refine o_pure (p_assign (v := .int .i64 (Hash.reduceErr most)) rfl) rfl rfl rfl ?_
    refine o_nil ?_
    refine q_then ?_
    refine c_seq ?_
    refine c_region ?_
    refine o_pure (p_move (v := .int .i64 most) rfl) rfl rfl rfl ?_
    refine o_call0 (v := .tuple #[.int .i64 (Hash.reduce (18446744073709551615 : UInt64) most), .int .i64 (Hash.reduceErr most)]) rfl (reduce_ok (18446744073709551615 : UInt64) most) hf18 (fun _ _ => trivial) rfl ?_
    refine o_pure (p_move (v := .tuple #[.int .i64 (Hash.reduce (18446744073709551615 : UInt64) most), .int .i64 (Hash.reduceErr most)]) rfl) rfl rfl rfl ?_
    refine o_pure (p_extract (vs := [.int .i64 (Hash.reduce (18446744073709551615 : UInt64) most), .int .i64 (Hash.reduceErr most)]) (v := .int .i64 (Hash.reduce (18446744073709551615 : UInt64) most)) rfl rfl) rfl rfl rfl ?_
    refine o_pure (p_extract (vs := [.int .i64 (Hash.reduce (18446744073709551615 : UInt64) most), .int .i64 (Hash.reduceErr most)]) (v := .int .i64 (Hash.reduceErr most)) rfl rfl) rfl rfl rfl ?_
    refine o_pure (p_assign (v := .int .i64 (Hash.reduce (18446744073709551615 : UInt64) most)) rfl) rfl rfl rfl ?_
    refine o_pure (p_assign (v := .int .i64 (Hash.reduceErr most)) rfl) rfl rfl rfl ?_
    refine o_nil ?_
    refine q_then ?_
    refine c_seq ?_
    refine c_region ?_
    refine o_pure (p_move (v := .int .i64 (Hash.reduce a most)) rfl) rfl rfl rfl ?_
    refine o_pure (p_ge (p := (Hash.reduce a most)) (q := 0) rfl rfl) rfl rfl rfl ?_
    refine o_pure (p_move (v := .bool (decide (0 ≤ (Hash.reduce a most)))) rfl) rfl rfl rfl ?_
    refine o_and (p := 71) 4 (decide ((Hash.reduce a most) < most)) ?_ ?_ ?_
    · intro hb5 hk
      simp only [decide_eq_true_eq] at hb5
      refine o_unguard 67 rfl rfl ?_
      refine o_pure (p_move (v := .int .i64 (Hash.reduce a most)) rfl) rfl rfl rfl ?_
      refine o_unguard 67 rfl rfl ?_
      refine o_pure (p_move (v := .int .i64 most) rfl) rfl rfl rfl ?_
      refine o_unguard 67 rfl rfl ?_
      refine o_pure (p_lt (p := (Hash.reduce a most)) (q := most) rfl rfl) rfl rfl rfl ?_
      refine o_pure (p_pick_true (u := .bool (decide ((Hash.reduce a most) < most))) rfl rfl) rfl rfl rfl ?_
      exact o_sub (Sub.cons rfl (Sub.skip rfl (Sub.skip rfl (Sub.skip rfl (Sub.skip rfl (Sub.skip rfl (Sub.refl _))))))) hk
    · intro hb5 hk
      refine o_guard_no rfl 67 rfl rfl rfl rfl rfl ?_
      refine o_guard_no rfl 67 rfl rfl rfl rfl rfl ?_
      refine o_guard_no rfl 67 rfl rfl rfl rfl rfl ?_
      refine o_pure (p_pick_false (v := .bool false) rfl rfl) rfl rfl rfl ?_
      exact o_sub (Sub.cons rfl (Sub.skip rfl (Sub.skip rfl (Sub.skip rfl (Sub.skip rfl (Sub.skip rfl (Sub.refl _))))))) hk
    refine o_pure (p_move (v := .bool (decide (0 ≤ (Hash.reduce a most)) && decide ((Hash.reduce a most) < most))) rfl) rfl rfl rfl ?_
    refine o_and (p := 81) 9 (decide (b < a) || decide ((Hash.reduce a most) ≤ (Hash.reduce b most))) ?_ ?_ ?_
    · intro hb6 hk
      simp only [Bool.and_eq_true, decide_eq_true_eq] at hb6
      refine o_unguard 72 rfl rfl ?_
      refine o_pure (p_move (v := .int .u64 (a.toNat : Int)) rfl) rfl rfl rfl ?_
      refine o_unguard 72 rfl rfl ?_
      refine o_pure (p_move (v := .int .u64 (b.toNat : Int)) rfl) rfl rfl rfl ?_
      refine o_unguard 72 rfl rfl ?_
      refine o_pure (pu_gt (p := a) (q := b) rfl rfl) rfl rfl rfl ?_
      refine o_unguard 72 rfl rfl ?_
      refine o_pure (p_move (v := .bool (decide (b < a))) rfl) rfl rfl rfl ?_
      refine o_or (p := 80) 4 (decide ((Hash.reduce a most) ≤ (Hash.reduce b most))) ?_ ?_ ?_
      · intro hb7 hk
        simp only [decide_eq_false_iff_not, Int.not_lt] at hb7
        refine o_unguard 76 rfl rfl ?_
        refine o_pure (p_move (v := .int .i64 (Hash.reduce a most)) rfl) rfl rfl rfl ?_
        refine o_unguard 76 rfl rfl ?_
        refine o_pure (p_move (v := .int .i64 (Hash.reduce b most)) rfl) rfl rfl rfl ?_
        refine o_unguard 76 rfl rfl ?_
        refine o_pure (p_le (p := (Hash.reduce a most)) (q := (Hash.reduce b most)) rfl rfl) rfl rfl rfl ?_
        refine o_unguard 72 rfl rfl ?_
        refine o_pure (p_pick_false (v := .bool (decide ((Hash.reduce a most) ≤ (Hash.reduce b most)))) rfl rfl) rfl rfl rfl ?_
        exact o_sub (Sub.cons rfl (Sub.skip rfl (Sub.skip rfl (Sub.skip rfl (Sub.skip rfl (Sub.skip rfl (Sub.refl _))))))) hk
      · intro hb7 hk
        refine o_guard_no rfl 76 rfl rfl rfl rfl rfl ?_
        refine o_guard_no rfl 76 rfl rfl rfl rfl rfl ?_
        refine o_guard_no rfl 76 rfl rfl rfl rfl rfl ?_
        refine o_unguard 72 rfl rfl ?_
        refine o_pure (p_pick_true (u := .bool true) rfl rfl) rfl rfl rfl ?_
        exact o_sub (Sub.cons rfl (Sub.skip rfl (Sub.skip rfl (Sub.skip rfl (Sub.skip rfl (Sub.skip rfl (Sub.refl _))))))) hk
      refine o_pure (p_pick_true (u := .bool (decide (b < a) || decide ((Hash.reduce a most) ≤ (Hash.reduce b most)))) rfl rfl) rfl rfl rfl ?_
      exact o_sub (Sub.cons rfl (Sub.skip rfl (Sub.skip rfl (Sub.skip rfl (Sub.skip rfl (Sub.skip rfl (Sub.skip rfl (Sub.refl _)))))))) hk
    · intro hb6 hk
      refine o_guard_no rfl 72 rfl rfl rfl rfl rfl ?_
      refine o_guard_no rfl 72 rfl rfl rfl rfl rfl ?_
      refine o_guard_no rfl 72 rfl rfl rfl rfl rfl ?_
      refine o_guard_no rfl 72 rfl rfl rfl rfl rfl ?_
      refine o_guard_no rfl 76 rfl rfl rfl rfl rfl ?_
      refine o_guard_no rfl 76 rfl rfl rfl rfl rfl ?_
      refine o_guard_no rfl 76 rfl rfl rfl rfl rfl ?_
      refine o_guard_no rfl 72 rfl rfl rfl rfl rfl ?_
      refine o_pure (p_pick_false (v := .bool false) rfl rfl) rfl rfl rfl ?_
      exact o_sub (Sub.cons rfl (Sub.skip rfl (Sub.skip rfl (Sub.skip rfl (Sub.skip rfl (Sub.skip rfl (Sub.skip rfl (Sub.skip rfl (Sub.skip rfl (Sub.skip rfl (Sub.skip rfl (Sub.refl _)))))))))))) hk
    refine o_pure (p_move (v := .bool ((decide (0 ≤ (Hash.reduce a most)) && decide ((Hash.reduce a most) < most)) && (decide (b < a) || decide ((Hash.reduce a most) ≤ (Hash.reduce b most))))) rfl) rfl rfl rfl ?_
    refine o_and (p := 91) 9 (((Hash.reduceErr (IntKind.i64.wrap (2 * most))) != 0) || ((IntKind.i64.wrap ((Hash.reduce a (IntKind.i64.wrap (2 * most))).tdiv 2)) == (Hash.reduce a most))) ?_ ?_ ?_
    · intro hb8 hk
      simp only [Bool.and_eq_true, decide_eq_true_eq, Bool.or_eq_true] at hb8
      refine o_unguard 82 rfl rfl ?_
      refine o_pure (p_move (v := .int .i64 (Hash.reduceErr (IntKind.i64.wrap (2 * most)))) rfl) rfl rfl rfl ?_
      refine o_unguard 82 rfl rfl ?_
      refine o_pure (p_ne (p := (Hash.reduceErr (IntKind.i64.wrap (2 * most)))) (q := 0) rfl rfl) rfl rfl rfl ?_
      refine o_unguard 82 rfl rfl ?_
      refine o_pure (p_move (v := .bool ((Hash.reduceErr (IntKind.i64.wrap (2 * most))) != 0)) rfl) rfl rfl rfl ?_
      refine o_or (p := 90) 5 ((IntKind.i64.wrap ((Hash.reduce a (IntKind.i64.wrap (2 * most))).tdiv 2)) == (Hash.reduce a most)) ?_ ?_ ?_
      · intro hb9 hk
        simp only [bne_eq_false_iff_eq] at hb9
        refine o_unguard 85 rfl rfl ?_
        refine o_pure (p_move (v := .int .i64 (Hash.reduce a (IntKind.i64.wrap (2 * most)))) rfl) rfl rfl rfl ?_
        refine o_unguard 85 rfl rfl ?_
        refine o_pure (p_quo (p := (Hash.reduce a (IntKind.i64.wrap (2 * most)))) (q := 2) rfl rfl (by decide)) rfl rfl rfl ?_
        refine o_unguard 85 rfl rfl ?_
        refine o_pure (p_move (v := .int .i64 (Hash.reduce a most)) rfl) rfl rfl rfl ?_
        refine o_unguard 85 rfl rfl ?_
        refine o_pure (p_eq (p := (IntKind.i64.wrap ((Hash.reduce a (IntKind.i64.wrap (2 * most))).tdiv 2))) (q := (Hash.reduce a most)) rfl rfl) rfl rfl rfl ?_
        refine o_unguard 82 rfl rfl ?_
        refine o_pure (p_pick_false (v := .bool ((IntKind.i64.wrap ((Hash.reduce a (IntKind.i64.wrap (2 * most))).tdiv 2)) == (Hash.reduce a most))) rfl rfl) rfl rfl rfl ?_
        exact o_sub (Sub.cons rfl (Sub.skip rfl (Sub.skip rfl (Sub.skip rfl (Sub.skip rfl (Sub.skip rfl (Sub.skip rfl (Sub.refl _)))))))) hk
      · intro hb9 hk
        refine o_guard_no rfl 85 rfl rfl rfl rfl rfl ?_
        refine o_guard_no rfl 85 rfl rfl rfl rfl rfl ?_
        refine o_guard_no rfl 85 rfl rfl rfl rfl rfl ?_
        refine o_guard_no rfl 85 rfl rfl rfl rfl rfl ?_
        refine o_unguard 82 rfl rfl ?_
        refine o_pure (p_pick_true (u := .bool true) rfl rfl) rfl rfl rfl ?_
        exact o_sub (Sub.cons rfl (Sub.skip rfl (Sub.skip rfl (Sub.skip rfl (Sub.skip rfl (Sub.skip rfl (Sub.skip rfl (Sub.refl _)))))))) hk
      refine o_pure (p_pick_true (u := .bool (((Hash.reduceErr (IntKind.i64.wrap (2 * most))) != 0) || ((IntKind.i64.wrap ((Hash.reduce a (IntKind.i64.wrap (2 * most))).tdiv 2)) == (Hash.reduce a most)))) rfl rfl) rfl rfl rfl ?_
      exact o_sub (Sub.cons rfl (Sub.skip rfl (Sub.skip rfl (Sub.skip rfl (Sub.skip rfl (Sub.skip rfl (Sub.refl _))))))) hk
    · intro hb8 hk
      refine o_guard_no rfl 82 rfl rfl rfl rfl rfl ?_
      refine o_guard_no rfl 82 rfl rfl rfl rfl rfl ?_
      refine o_guard_no rfl 82 rfl rfl rfl rfl rfl ?_
      refine o_guard_no rfl 85 rfl rfl rfl rfl rfl ?_
      refine o_guard_no rfl 85 rfl rfl rfl rfl rfl ?_
      refine o_guard_no rfl 85 rfl rfl rfl rfl rfl ?_
      refine o_guard_no rfl 85 rfl rfl rfl rfl rfl ?_
      refine o_guard_no rfl 82 rfl rfl rfl rfl rfl ?_
      refine o_pure (p_pick_false (v := .bool false) rfl rfl) rfl rfl rfl ?_
      exact o_sub (Sub.cons rfl (Sub.skip rfl (Sub.skip rfl (Sub.skip rfl (Sub.skip rfl (Sub.skip rfl (Sub.skip rfl (Sub.skip rfl (Sub.skip rfl (Sub.skip rfl (Sub.skip rfl (Sub.refl _)))))))))))) hk
    refine o_pure (p_move (v := .bool (((decide (0 ≤ (Hash.reduce a most)) && decide ((Hash.reduce a most) < most)) && (decide (b < a) || decide ((Hash.reduce a most) ≤ (Hash.reduce b most)))) && (((Hash.reduceErr (IntKind.i64.wrap (2 * most))) != 0) || ((IntKind.i64.wrap ((Hash.reduce a (IntKind.i64.wrap (2 * most))).tdiv 2)) == (Hash.reduce a most))))) rfl) rfl rfl rfl ?_
    refine o_and (p := 95) 3 ((Hash.reduceErr most) == 0) ?_ ?_ ?_
    · intro hb10 hk
      simp only [Bool.and_eq_true, decide_eq_true_eq, Bool.or_eq_true, bne_iff_ne, ne_eq, beq_iff_eq] at hb10
      refine o_unguard 92 rfl rfl ?_
      refine o_pure (p_move (v := .int .i64 (Hash.reduceErr most)) rfl) rfl rfl rfl ?_
      refine o_unguard 92 rfl rfl ?_
      refine o_pure (p_eq (p := (Hash.reduceErr most)) (q := 0) rfl rfl) rfl rfl rfl ?_
      refine o_pure (p_pick_true (u := .bool ((Hash.reduceErr most) == 0)) rfl rfl) rfl rfl rfl ?_
      exact o_sub (Sub.cons rfl (Sub.skip rfl (Sub.skip rfl (Sub.skip rfl (Sub.skip rfl (Sub.refl _)))))) hk
    · intro hb10 hk
      refine o_guard_no rfl 92 rfl rfl rfl rfl rfl ?_
      refine o_guard_no rfl 92 rfl rfl rfl rfl rfl ?_
      refine o_pure (p_pick_false (v := .bool false) rfl rfl) rfl rfl rfl ?_
      exact o_sub (Sub.cons rfl (Sub.skip rfl (Sub.skip rfl (Sub.skip rfl (Sub.skip rfl (Sub.refl _)))))) hk
    refine o_pure (p_move (v := .bool ((((decide (0 ≤ (Hash.reduce a most)) && decide ((Hash.reduce a most) < most)) && (decide (b < a) || decide ((Hash.reduce a most) ≤ (Hash.reduce b most)))) && (((Hash.reduceErr (IntKind.i64.wrap (2 * most))) != 0) || ((IntKind.i64.wrap ((Hash.reduce a (IntKind.i64.wrap (2 * most))).tdiv 2)) == (Hash.reduce a most)))) && ((Hash.reduceErr most) == 0))) rfl) rfl rfl rfl ?_
    refine o_and (p := 99) 3 ((Hash.reduce (0 : UInt64) most) == 0) ?_ ?_ ?_
    · intro hb11 hk
      simp only [Bool.and_eq_true, decide_eq_true_eq, Bool.or_eq_true, bne_iff_ne, ne_eq, beq_iff_eq] at hb11
      refine o_unguard 96 rfl rfl ?_
      refine o_pure (p_move (v := .int .i64 (Hash.reduce (0 : UInt64) most)) rfl) rfl rfl rfl ?_
      refine o_unguard 96 rfl rfl ?_
      refine o_pure (p_eq (p := (Hash.reduce (0 : UInt64) most)) (q := 0) rfl rfl) rfl rfl rfl ?_
      refine o_pure (p_pick_true (u := .bool ((Hash.reduce (0 : UInt64) most) == 0)) rfl rfl) rfl rfl rfl ?_
      exact o_sub (Sub.cons rfl (Sub.skip rfl (Sub.skip rfl (Sub.skip rfl (Sub.skip rfl (Sub.refl _)))))) hk
    · intro hb11 hk
      refine o_guard_no rfl 96 rfl rfl rfl rfl rfl ?_
      refine o_guard_no rfl 96 rfl rfl rfl rfl rfl ?_
      refine o_pure (p_pick_false (v := .bool false) rfl rfl) rfl rfl rfl ?_
      exact o_sub (Sub.cons rfl (Sub.skip rfl (Sub.skip rfl (Sub.skip rfl (Sub.skip rfl (Sub.refl _)))))) hk
    refine o_pure (p_move (v := .bool (((((decide (0 ≤ (Hash.reduce a most)) && decide ((Hash.reduce a most) < most)) && (decide (b < a) || decide ((Hash.reduce a most) ≤ (Hash.reduce b most)))) && (((Hash.reduceErr (IntKind.i64.wrap (2 * most))) != 0) || ((IntKind.i64.wrap ((Hash.reduce a (IntKind.i64.wrap (2 * most))).tdiv 2)) == (Hash.reduce a most)))) && ((Hash.reduceErr most) == 0)) && ((Hash.reduce (0 : UInt64) most) == 0))) rfl) rfl rfl rfl ?_
    refine o_and (p := 103) 3 ((Hash.reduceErr most) == 0) ?_ ?_ ?_
    · intro hb12 hk
      simp only [Bool.and_eq_true, decide_eq_true_eq, Bool.or_eq_true, bne_iff_ne, ne_eq, beq_iff_eq] at hb12
      refine o_unguard 100 rfl rfl ?_
      refine o_pure (p_move (v := .int .i64 (Hash.reduceErr most)) rfl) rfl rfl rfl ?_
      refine o_unguard 100 rfl rfl ?_
      refine o_pure (p_eq (p := (Hash.reduceErr most)) (q := 0) rfl rfl) rfl rfl rfl ?_
      refine o_pure (p_pick_true (u := .bool ((Hash.reduceErr most) == 0)) rfl rfl) rfl rfl rfl ?_
      exact o_sub (Sub.cons rfl (Sub.skip rfl (Sub.skip rfl (Sub.skip rfl (Sub.skip rfl (Sub.refl _)))))) hk
    · intro hb12 hk
      refine o_guard_no rfl 100 rfl rfl rfl rfl rfl ?_
      refine o_guard_no rfl 100 rfl rfl rfl rfl rfl ?_
      refine o_pure (p_pick_false (v := .bool false) rfl rfl) rfl rfl rfl ?_
      exact o_sub (Sub.cons rfl (Sub.skip rfl (Sub.skip rfl (Sub.skip rfl (Sub.skip rfl (Sub.refl _)))))) hk
    refine o_pure (p_move (v := .bool ((((((decide (0 ≤ (Hash.reduce a most)) && decide ((Hash.reduce a most) < most)) && (decide (b < a) || decide ((Hash.reduce a most) ≤ (Hash.reduce b most)))) && (((Hash.reduceErr (IntKind.i64.wrap (2 * most))) != 0) || ((IntKind.i64.wrap ((Hash.reduce a (IntKind.i64.wrap (2 * most))).tdiv 2)) == (Hash.reduce a most)))) && ((Hash.reduceErr most) == 0)) && ((Hash.reduce (0 : UInt64) most) == 0)) && ((Hash.reduceErr most) == 0))) rfl) rfl rfl rfl ?_
    refine o_and (p := 109) 5 ((Hash.reduce (18446744073709551615 : UInt64) most) == (most - 1)) ?_ ?_ ?_
    · intro hb13 hk
      simp only [Bool.and_eq_true, decide_eq_true_eq, Bool.or_eq_true, bne_iff_ne, ne_eq, beq_iff_eq] at hb13
      refine o_unguard 104 rfl rfl ?_
      refine o_pure (p_move (v := .int .i64 (Hash.reduce (18446744073709551615 : UInt64) most)) rfl) rfl rfl rfl ?_
      refine o_unguard 104 rfl rfl ?_
      refine o_pure (p_move (v := .int .i64 most) rfl) rfl rfl rfl ?_
      refine o_unguard 104 rfl rfl ?_
      refine o_pure (p_subb (p := most) (q := 1) rfl rfl (by omega)) rfl rfl rfl ?_
      refine o_unguard 104 rfl rfl ?_
      refine o_pure (p_eq (p := (Hash.reduce (18446744073709551615 : UInt64) most)) (q := (most - 1)) rfl rfl) rfl rfl rfl ?_
      refine o_pure (p_pick_true (u := .bool ((Hash.reduce (18446744073709551615 : UInt64) most) == (most - 1))) rfl rfl) rfl rfl rfl ?_
      exact o_sub (Sub.cons rfl (Sub.skip rfl (Sub.skip rfl (Sub.skip rfl (Sub.skip rfl (Sub.skip rfl (Sub.skip rfl (Sub.refl _)))))))) hk
    · intro hb13 hk
      refine o_guard_no rfl 104 rfl rfl rfl rfl rfl ?_
      refine o_guard_no rfl 104 rfl rfl rfl rfl rfl ?_
      refine o_guard_no rfl 104 rfl rfl rfl rfl rfl ?_
      refine o_guard_no rfl 104 rfl rfl rfl rfl rfl ?_
      refine o_pure (p_pick_false (v := .bool false) rfl rfl) rfl rfl rfl ?_
      exact o_sub (Sub.cons rfl (Sub.skip rfl (Sub.skip rfl (Sub.skip rfl (Sub.skip rfl (Sub.skip rfl (Sub.skip rfl (Sub.refl _)))))))) hk
    refine o_pure (p_assign (v := .bool (((((((decide (0 ≤ (Hash.reduce a most)) && decide ((Hash.reduce a most) < most)) && (decide (b < a) || decide ((Hash.reduce a most) ≤ (Hash.reduce b most)))) && (((Hash.reduceErr (IntKind.i64.wrap (2 * most))) != 0) || ((IntKind.i64.wrap ((Hash.reduce a (IntKind.i64.wrap (2 * most))).tdiv 2)) == (Hash.reduce a most)))) && ((Hash.reduceErr most) == 0)) && ((Hash.reduce (0 : UInt64) most) == 0)) && ((Hash.reduceErr most) == 0)) && ((Hash.reduce (18446744073709551615 : UInt64) most) == (most - 1)))) rfl) rfl rfl rfl ?_
    refine o_nil ?_
    refine q_then ?_
    refine c_ret ?_
    refine q_end0 (v := .bool (((((((decide (0 ≤ (Hash.reduce a most)) && decide ((Hash.reduce a most) < most)) && (decide (b < a) || decide ((Hash.reduce a most) ≤ (Hash.reduce b most)))) && (((Hash.reduceErr (IntKind.i64.wrap (2 * most))) != 0) || ((IntKind.i64.wrap ((Hash.reduce a (IntKind.i64.wrap (2 * most))).tdiv 2)) == (Hash.reduce a most)))) && ((Hash.reduceErr most) == 0)) && ((Hash.reduce (0 : UInt64) most) == 0)) && ((Hash.reduceErr most) == 0)) && ((Hash.reduce (18446744073709551615 : UInt64) most) == (most - 1)))) (rt1 rfl (r_tmp rfl)) (i := 0) rfl ?_
    first | exact congrArg Value.bool (Hash.reduce_bool a b (by assumption) (by omega)) | (have hz := Hash.reduce_zero (by assumption : Hash.reduceErr most ≠ 0 ∨ Hash.reduceErr most ≠ 0); simp [hz])
end Go.Proofs.Ythbfdhphnofacaa
