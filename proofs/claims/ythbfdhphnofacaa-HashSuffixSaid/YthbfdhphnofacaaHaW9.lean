/- The walks, printed by a program from the translation and a specification. -/
import Derived.Test.YthbfdhphnofacaaHaF
import Derived.Test.YthbfdhphnofacaaHaPure
import Derived.Test.YthbfdhphnofacaaHaW5
import Derived.Test.YthbfdhphnofacaaHaLaw2
namespace Go.Proofs.Ythbfdhphnofacaa
open Go.Sx Go.RowKit
set_option maxHeartbeats 8000000 in
set_option maxRecDepth 100000 in
theorem hashSuffix_ok (s : ByteArray) (t : ByteArray) (more : ByteArray) : Fn0 Try.prog 5 [.string s, .string t, .string more] (fun w => s.size ≤ 140737488355328 ∧ t.size ≤ 140737488355328 ∧ more.size ≤ 140737488355328) (.bool true) := by
  refine fn0 (nt := 82) (F0 := [(0, .string s), (1, .string t), (2, .string more)]) Try.func5 rfl Try.ntmps5 rfl rfl (fun w0 hpre => ?_)
  obtain ⟨hs, ht, hmore⟩ := hpre
  refine c_seq ?_
  refine c_region ?_
  refine o_pure (p_assign (v := .bool false) rfl) rfl rfl rfl ?_
  refine o_nil ?_
  refine q_then ?_
  refine c_seq ?_
  refine c_region ?_
  refine o_pure (p_move (v := .string s) rfl) rfl rfl rfl ?_
  refine o_call0 (v := .tuple #[.int .u64 ((Hash.sum s).toNat : Int), .int .i64 (Hash.sumErr s)]) rfl (sum_ok s) hf19 (fun w hw => (by first | assumption | omega | decide | (rw [ByteArray.size_append]; omega) | simp)) rfl ?_
  refine o_pure (p_move (v := .tuple #[.int .u64 ((Hash.sum s).toNat : Int), .int .i64 (Hash.sumErr s)]) rfl) rfl rfl rfl ?_
  refine o_pure (p_extract (vs := [.int .u64 ((Hash.sum s).toNat : Int), .int .i64 (Hash.sumErr s)]) (v := .int .u64 ((Hash.sum s).toNat : Int)) rfl rfl) rfl rfl rfl ?_
  refine o_pure (p_extract (vs := [.int .u64 ((Hash.sum s).toNat : Int), .int .i64 (Hash.sumErr s)]) (v := .int .i64 (Hash.sumErr s)) rfl rfl) rfl rfl rfl ?_
  refine o_pure (p_assign (v := .int .u64 ((Hash.sum s).toNat : Int)) rfl) rfl rfl rfl ?_
  refine o_pure (p_assign (v := .int .i64 (Hash.sumErr s)) rfl) rfl rfl rfl ?_
  refine o_nil ?_
  refine q_then ?_
  refine c_seq ?_
  refine c_region ?_
  refine o_pure (p_move (v := .string t) rfl) rfl rfl rfl ?_
  refine o_call0 (v := .tuple #[.int .u64 ((Hash.sum t).toNat : Int), .int .i64 (Hash.sumErr t)]) rfl (sum_ok t) hf19 (fun w hw => (by first | assumption | omega | decide | (rw [ByteArray.size_append]; omega) | simp)) rfl ?_
  refine o_pure (p_move (v := .tuple #[.int .u64 ((Hash.sum t).toNat : Int), .int .i64 (Hash.sumErr t)]) rfl) rfl rfl rfl ?_
  refine o_pure (p_extract (vs := [.int .u64 ((Hash.sum t).toNat : Int), .int .i64 (Hash.sumErr t)]) (v := .int .u64 ((Hash.sum t).toNat : Int)) rfl rfl) rfl rfl rfl ?_
  refine o_pure (p_extract (vs := [.int .u64 ((Hash.sum t).toNat : Int), .int .i64 (Hash.sumErr t)]) (v := .int .i64 (Hash.sumErr t)) rfl rfl) rfl rfl rfl ?_
  refine o_pure (p_assign (v := .int .u64 ((Hash.sum t).toNat : Int)) rfl) rfl rfl rfl ?_
  refine o_pure (p_assign (v := .int .i64 (Hash.sumErr t)) rfl) rfl rfl rfl ?_
  refine o_nil ?_
  refine q_then ?_
  refine c_seq ?_
  refine c_region ?_
  refine o_pure (p_move (v := .string s) rfl) rfl rfl rfl ?_
  refine o_pure (p_move (v := .string more) rfl) rfl rfl rfl ?_
  refine o_pure (p_addStr (s := s) (t := more) rfl rfl (by omega)) rfl rfl rfl ?_
  refine o_call0 (v := .tuple #[.int .u64 ((Hash.sum (s ++ more)).toNat : Int), .int .i64 (Hash.sumErr (s ++ more))]) rfl (sum_ok (s ++ more)) hf19 (fun w hw => (by first | assumption | omega | decide | (rw [ByteArray.size_append]; omega) | simp)) rfl ?_
  refine o_pure (p_move (v := .tuple #[.int .u64 ((Hash.sum (s ++ more)).toNat : Int), .int .i64 (Hash.sumErr (s ++ more))]) rfl) rfl rfl rfl ?_
  refine o_pure (p_extract (vs := [.int .u64 ((Hash.sum (s ++ more)).toNat : Int), .int .i64 (Hash.sumErr (s ++ more))]) (v := .int .u64 ((Hash.sum (s ++ more)).toNat : Int)) rfl rfl) rfl rfl rfl ?_
  refine o_pure (p_extract (vs := [.int .u64 ((Hash.sum (s ++ more)).toNat : Int), .int .i64 (Hash.sumErr (s ++ more))]) (v := .int .i64 (Hash.sumErr (s ++ more))) rfl rfl) rfl rfl rfl ?_
  refine o_pure (p_assign (v := .int .u64 ((Hash.sum (s ++ more)).toNat : Int)) rfl) rfl rfl rfl ?_
  refine o_pure (p_assign (v := .int .i64 (Hash.sumErr (s ++ more))) rfl) rfl rfl rfl ?_
  refine o_nil ?_
  refine q_then ?_
  refine c_seq ?_
  refine c_region ?_
  refine o_pure (p_move (v := .string t) rfl) rfl rfl rfl ?_
  refine o_pure (p_move (v := .string more) rfl) rfl rfl rfl ?_
  refine o_pure (p_addStr (s := t) (t := more) rfl rfl (by omega)) rfl rfl rfl ?_
  refine o_call0 (v := .tuple #[.int .u64 ((Hash.sum (t ++ more)).toNat : Int), .int .i64 (Hash.sumErr (t ++ more))]) rfl (sum_ok (t ++ more)) hf19 (fun w hw => (by first | assumption | omega | decide | (rw [ByteArray.size_append]; omega) | simp)) rfl ?_
  refine o_pure (p_move (v := .tuple #[.int .u64 ((Hash.sum (t ++ more)).toNat : Int), .int .i64 (Hash.sumErr (t ++ more))]) rfl) rfl rfl rfl ?_
  refine o_pure (p_extract (vs := [.int .u64 ((Hash.sum (t ++ more)).toNat : Int), .int .i64 (Hash.sumErr (t ++ more))]) (v := .int .u64 ((Hash.sum (t ++ more)).toNat : Int)) rfl rfl) rfl rfl rfl ?_
  refine o_pure (p_extract (vs := [.int .u64 ((Hash.sum (t ++ more)).toNat : Int), .int .i64 (Hash.sumErr (t ++ more))]) (v := .int .i64 (Hash.sumErr (t ++ more))) rfl rfl) rfl rfl rfl ?_
  refine o_pure (p_assign (v := .int .u64 ((Hash.sum (t ++ more)).toNat : Int)) rfl) rfl rfl rfl ?_
  refine o_pure (p_assign (v := .int .i64 (Hash.sumErr (t ++ more))) rfl) rfl rfl rfl ?_
  refine o_nil ?_
  refine q_then ?_
  refine c_seq ?_
  refine c_seq ?_
  refine c_region ?_
  refine o_call0 (v := .bool true) rfl (mixBegun_ok ) hf16 (fun _ _ => trivial) rfl ?_
  refine o_pure (p_not (b := true) rfl) rfl rfl rfl ?_
  refine o_nil ?_
  refine q_then ?_
  refine c_false rfl ?_
  refine c_skip ?_
  refine q_then ?_
  refine c_seq ?_
  refine c_seq ?_
  refine c_region ?_
  refine o_pure (p_move (v := .int .i64 (Hash.sumErr s)) rfl) rfl rfl rfl ?_
  refine o_pure (p_ne (p := (Hash.sumErr s)) (q := 0) rfl rfl) rfl rfl rfl ?_
  refine o_pure (p_move (v := .bool ((Hash.sumErr s) != 0)) rfl) rfl rfl rfl ?_
  refine o_or (p := 46) 3 ((Hash.sumErr t) != 0) ?_ ?_ ?_
  · intro hb1 hk
    simp only [bne_eq_false_iff_eq] at hb1
    refine o_unguard 43 rfl rfl ?_
    refine o_pure (p_move (v := .int .i64 (Hash.sumErr t)) rfl) rfl rfl rfl ?_
    refine o_unguard 43 rfl rfl ?_
    refine o_pure (p_ne (p := (Hash.sumErr t)) (q := 0) rfl rfl) rfl rfl rfl ?_
    refine o_pure (p_pick_false (v := .bool ((Hash.sumErr t) != 0)) rfl rfl) rfl rfl rfl ?_
    exact o_sub (Sub.cons rfl (Sub.skip rfl (Sub.skip rfl (Sub.skip rfl (Sub.skip rfl (Sub.refl _)))))) hk
  · intro hb1 hk
    refine o_guard_no rfl 43 rfl rfl rfl rfl rfl ?_
    refine o_guard_no rfl 43 rfl rfl rfl rfl rfl ?_
    refine o_pure (p_pick_true (u := .bool true) rfl rfl) rfl rfl rfl ?_
    exact o_sub (Sub.cons rfl (Sub.skip rfl (Sub.skip rfl (Sub.skip rfl (Sub.skip rfl (Sub.refl _)))))) hk
  refine o_pure (p_move (v := .bool (((Hash.sumErr s) != 0) || ((Hash.sumErr t) != 0))) rfl) rfl rfl rfl ?_
  refine o_or (p := 50) 3 ((Hash.sumErr (s ++ more)) != 0) ?_ ?_ ?_
  · intro hb2 hk
    simp only [Bool.or_eq_false_iff, bne_eq_false_iff_eq] at hb2
    refine o_unguard 47 rfl rfl ?_
    refine o_pure (p_move (v := .int .i64 (Hash.sumErr (s ++ more))) rfl) rfl rfl rfl ?_
    refine o_unguard 47 rfl rfl ?_
    refine o_pure (p_ne (p := (Hash.sumErr (s ++ more))) (q := 0) rfl rfl) rfl rfl rfl ?_
    refine o_pure (p_pick_false (v := .bool ((Hash.sumErr (s ++ more)) != 0)) rfl rfl) rfl rfl rfl ?_
    exact o_sub (Sub.cons rfl (Sub.skip rfl (Sub.skip rfl (Sub.skip rfl (Sub.skip rfl (Sub.refl _)))))) hk
  · intro hb2 hk
    refine o_guard_no rfl 47 rfl rfl rfl rfl rfl ?_
    refine o_guard_no rfl 47 rfl rfl rfl rfl rfl ?_
    refine o_pure (p_pick_true (u := .bool true) rfl rfl) rfl rfl rfl ?_
    exact o_sub (Sub.cons rfl (Sub.skip rfl (Sub.skip rfl (Sub.skip rfl (Sub.skip rfl (Sub.refl _)))))) hk
  refine o_pure (p_move (v := .bool ((((Hash.sumErr s) != 0) || ((Hash.sumErr t) != 0)) || ((Hash.sumErr (s ++ more)) != 0))) rfl) rfl rfl rfl ?_
  refine o_or (p := 54) 3 ((Hash.sumErr (t ++ more)) != 0) ?_ ?_ ?_
  · intro hb3 hk
    simp only [Bool.or_eq_false_iff, bne_eq_false_iff_eq] at hb3
    refine o_unguard 51 rfl rfl ?_
    refine o_pure (p_move (v := .int .i64 (Hash.sumErr (t ++ more))) rfl) rfl rfl rfl ?_
    refine o_unguard 51 rfl rfl ?_
    refine o_pure (p_ne (p := (Hash.sumErr (t ++ more))) (q := 0) rfl rfl) rfl rfl rfl ?_
    refine o_pure (p_pick_false (v := .bool ((Hash.sumErr (t ++ more)) != 0)) rfl rfl) rfl rfl rfl ?_
    exact o_sub (Sub.cons rfl (Sub.skip rfl (Sub.skip rfl (Sub.skip rfl (Sub.skip rfl (Sub.refl _)))))) hk
  · intro hb3 hk
    refine o_guard_no rfl 51 rfl rfl rfl rfl rfl ?_
    refine o_guard_no rfl 51 rfl rfl rfl rfl rfl ?_
    refine o_pure (p_pick_true (u := .bool true) rfl rfl) rfl rfl rfl ?_
    exact o_sub (Sub.cons rfl (Sub.skip rfl (Sub.skip rfl (Sub.skip rfl (Sub.skip rfl (Sub.refl _)))))) hk
  refine o_nil ?_
  refine q_then ?_
  refine c_cond (b := (((((Hash.sumErr s) != 0) || ((Hash.sumErr t) != 0)) || ((Hash.sumErr (s ++ more)) != 0)) || ((Hash.sumErr (t ++ more)) != 0))) rfl (fun hc4 => ?_) (fun hc4 => ?_)
  · simp only [Bool.or_eq_true, bne_iff_ne, ne_eq] at hc4
    refine c_seq ?_
    refine c_region ?_
    refine o_pure (p_assign (v := .bool true) rfl) rfl rfl rfl ?_
    refine o_nil ?_
    refine q_then ?_
    refine c_ret ?_
    refine q_then_ret ?_
    refine q_end0 (v := .bool true) (rt1 rfl (r_tmp rfl)) (i := 0) rfl ?_
    first | rfl | exact congrArg Value.bool (Hash.suffix_bool (by omega) (by omega) (by omega) (by omega))
  · simp only [Bool.or_eq_false_iff, bne_eq_false_iff_eq] at hc4
    refine c_skip ?_
    refine q_then ?_
    refine c_seq ?_
    refine c_region ?_
    refine o_pure (p_move (v := .int .u64 ((Hash.sum s).toNat : Int)) rfl) rfl rfl rfl ?_
    refine o_pure (p_move (v := .int .u64 ((Hash.sum t).toNat : Int)) rfl) rfl rfl rfl ?_
    refine o_pure (pu_eq (p := (Hash.sum s)) (q := (Hash.sum t)) rfl rfl) rfl rfl rfl ?_
    refine o_pure (p_move (v := .int .u64 ((Hash.sum (s ++ more)).toNat : Int)) rfl) rfl rfl rfl ?_
    refine o_pure (p_move (v := .int .u64 ((Hash.sum (t ++ more)).toNat : Int)) rfl) rfl rfl rfl ?_
    refine o_pure (pu_eq (p := (Hash.sum (s ++ more))) (q := (Hash.sum (t ++ more))) rfl rfl) rfl rfl rfl ?_
    refine o_pure (p_eqBool (b := ((Hash.sum s) == (Hash.sum t))) (c := ((Hash.sum (s ++ more)) == (Hash.sum (t ++ more)))) rfl rfl Try.underlying4) rfl rfl rfl ?_
    refine o_pure (p_move (v := .bool (((Hash.sum s) == (Hash.sum t)) == ((Hash.sum (s ++ more)) == (Hash.sum (t ++ more))))) rfl) rfl rfl rfl ?_
    refine o_and (p := 81) 19 (((((s.size : Int) != 1) || ((t.size : Int) != 1)) || decide (s = t)) || ((Hash.sum s) != (Hash.sum t))) ?_ ?_ ?_
    · intro hb5 hk
      simp only [beq_iff_eq] at hb5
      refine o_unguard 62 rfl rfl ?_
      refine o_pure (p_move (v := .string s) rfl) rfl rfl rfl ?_
      refine o_unguard 62 rfl rfl ?_
      refine o_pure (p_len_string rfl rfl Try.underlying9) rfl rfl rfl ?_
      refine o_unguard 62 rfl rfl ?_
      refine o_pure (p_ne (p := (s.size : Int)) (q := 1) rfl rfl) rfl rfl rfl ?_
      refine o_unguard 62 rfl rfl ?_
      refine o_pure (p_move (v := .bool ((s.size : Int) != 1)) rfl) rfl rfl rfl ?_
      refine o_or (p := 70) 4 ((t.size : Int) != 1) ?_ ?_ ?_
      · intro hb6 hk
        simp only [bne_eq_false_iff_eq] at hb6
        refine o_unguard 66 rfl rfl ?_
        refine o_pure (p_move (v := .string t) rfl) rfl rfl rfl ?_
        refine o_unguard 66 rfl rfl ?_
        refine o_pure (p_len_string rfl rfl Try.underlying9) rfl rfl rfl ?_
        refine o_unguard 66 rfl rfl ?_
        refine o_pure (p_ne (p := (t.size : Int)) (q := 1) rfl rfl) rfl rfl rfl ?_
        refine o_unguard 62 rfl rfl ?_
        refine o_pure (p_pick_false (v := .bool ((t.size : Int) != 1)) rfl rfl) rfl rfl rfl ?_
        exact o_sub (Sub.cons rfl (Sub.skip rfl (Sub.skip rfl (Sub.skip rfl (Sub.skip rfl (Sub.skip rfl (Sub.refl _))))))) hk
      · intro hb6 hk
        refine o_guard_no rfl 66 rfl rfl rfl rfl rfl ?_
        refine o_guard_no rfl 66 rfl rfl rfl rfl rfl ?_
        refine o_guard_no rfl 66 rfl rfl rfl rfl rfl ?_
        refine o_unguard 62 rfl rfl ?_
        refine o_pure (p_pick_true (u := .bool true) rfl rfl) rfl rfl rfl ?_
        exact o_sub (Sub.cons rfl (Sub.skip rfl (Sub.skip rfl (Sub.skip rfl (Sub.skip rfl (Sub.skip rfl (Sub.refl _))))))) hk
      refine o_unguard 62 rfl rfl ?_
      refine o_pure (p_move (v := .bool (((s.size : Int) != 1) || ((t.size : Int) != 1))) rfl) rfl rfl rfl ?_
      refine o_or (p := 75) 4 (decide (s = t)) ?_ ?_ ?_
      · intro hb7 hk
        simp only [Bool.or_eq_false_iff, bne_eq_false_iff_eq] at hb7
        refine o_unguard 71 rfl rfl ?_
        refine o_pure (p_move (v := .string s) rfl) rfl rfl rfl ?_
        refine o_unguard 71 rfl rfl ?_
        refine o_pure (p_move (v := .string t) rfl) rfl rfl rfl ?_
        refine o_unguard 71 rfl rfl ?_
        refine o_pure (p_eqStr (s := s) (t := t) rfl rfl) rfl rfl rfl ?_
        refine o_unguard 62 rfl rfl ?_
        refine o_pure (p_pick_false (v := .bool (decide (s = t))) rfl rfl) rfl rfl rfl ?_
        exact o_sub (Sub.cons rfl (Sub.skip rfl (Sub.skip rfl (Sub.skip rfl (Sub.skip rfl (Sub.skip rfl (Sub.refl _))))))) hk
      · intro hb7 hk
        refine o_guard_no rfl 71 rfl rfl rfl rfl rfl ?_
        refine o_guard_no rfl 71 rfl rfl rfl rfl rfl ?_
        refine o_guard_no rfl 71 rfl rfl rfl rfl rfl ?_
        refine o_unguard 62 rfl rfl ?_
        refine o_pure (p_pick_true (u := .bool true) rfl rfl) rfl rfl rfl ?_
        exact o_sub (Sub.cons rfl (Sub.skip rfl (Sub.skip rfl (Sub.skip rfl (Sub.skip rfl (Sub.skip rfl (Sub.refl _))))))) hk
      refine o_unguard 62 rfl rfl ?_
      refine o_pure (p_move (v := .bool ((((s.size : Int) != 1) || ((t.size : Int) != 1)) || decide (s = t))) rfl) rfl rfl rfl ?_
      refine o_or (p := 80) 4 ((Hash.sum s) != (Hash.sum t)) ?_ ?_ ?_
      · intro hb8 hk
        simp only [Bool.or_eq_false_iff, bne_eq_false_iff_eq, decide_eq_false_iff_not] at hb8
        refine o_unguard 76 rfl rfl ?_
        refine o_pure (p_move (v := .int .u64 ((Hash.sum s).toNat : Int)) rfl) rfl rfl rfl ?_
        refine o_unguard 76 rfl rfl ?_
        refine o_pure (p_move (v := .int .u64 ((Hash.sum t).toNat : Int)) rfl) rfl rfl rfl ?_
        refine o_unguard 76 rfl rfl ?_
        refine o_pure (pu_ne (p := (Hash.sum s)) (q := (Hash.sum t)) rfl rfl) rfl rfl rfl ?_
        refine o_unguard 62 rfl rfl ?_
        refine o_pure (p_pick_false (v := .bool ((Hash.sum s) != (Hash.sum t))) rfl rfl) rfl rfl rfl ?_
        exact o_sub (Sub.cons rfl (Sub.skip rfl (Sub.skip rfl (Sub.skip rfl (Sub.skip rfl (Sub.skip rfl (Sub.refl _))))))) hk
      · intro hb8 hk
        refine o_guard_no rfl 76 rfl rfl rfl rfl rfl ?_
        refine o_guard_no rfl 76 rfl rfl rfl rfl rfl ?_
        refine o_guard_no rfl 76 rfl rfl rfl rfl rfl ?_
        refine o_unguard 62 rfl rfl ?_
        refine o_pure (p_pick_true (u := .bool true) rfl rfl) rfl rfl rfl ?_
        exact o_sub (Sub.cons rfl (Sub.skip rfl (Sub.skip rfl (Sub.skip rfl (Sub.skip rfl (Sub.skip rfl (Sub.refl _))))))) hk
      refine o_pure (p_pick_true (u := .bool (((((s.size : Int) != 1) || ((t.size : Int) != 1)) || decide (s = t)) || ((Hash.sum s) != (Hash.sum t)))) rfl rfl) rfl rfl rfl ?_
      exact o_sub (Sub.cons rfl (Sub.skip rfl (Sub.skip rfl (Sub.skip rfl (Sub.skip rfl (Sub.skip rfl (Sub.skip rfl (Sub.skip rfl (Sub.skip rfl (Sub.refl _)))))))))) hk
    · intro hb5 hk
      refine o_guard_no rfl 62 rfl rfl rfl rfl rfl ?_
      refine o_guard_no rfl 62 rfl rfl rfl rfl rfl ?_
      refine o_guard_no rfl 62 rfl rfl rfl rfl rfl ?_
      refine o_guard_no rfl 62 rfl rfl rfl rfl rfl ?_
      refine o_guard_no rfl 66 rfl rfl rfl rfl rfl ?_
      refine o_guard_no rfl 66 rfl rfl rfl rfl rfl ?_
      refine o_guard_no rfl 66 rfl rfl rfl rfl rfl ?_
      refine o_guard_no rfl 62 rfl rfl rfl rfl rfl ?_
      refine o_guard_no rfl 62 rfl rfl rfl rfl rfl ?_
      refine o_guard_no rfl 71 rfl rfl rfl rfl rfl ?_
      refine o_guard_no rfl 71 rfl rfl rfl rfl rfl ?_
      refine o_guard_no rfl 71 rfl rfl rfl rfl rfl ?_
      refine o_guard_no rfl 62 rfl rfl rfl rfl rfl ?_
      refine o_guard_no rfl 62 rfl rfl rfl rfl rfl ?_
      refine o_guard_no rfl 76 rfl rfl rfl rfl rfl ?_
      refine o_guard_no rfl 76 rfl rfl rfl rfl rfl ?_
      refine o_guard_no rfl 76 rfl rfl rfl rfl rfl ?_
      refine o_guard_no rfl 62 rfl rfl rfl rfl rfl ?_
      refine o_pure (p_pick_false (v := .bool false) rfl rfl) rfl rfl rfl ?_
      exact o_sub (Sub.cons rfl (Sub.skip rfl (Sub.skip rfl (Sub.skip rfl (Sub.skip rfl (Sub.skip rfl (Sub.skip rfl (Sub.skip rfl (Sub.skip rfl (Sub.skip rfl (Sub.skip rfl (Sub.skip rfl (Sub.skip rfl (Sub.skip rfl (Sub.skip rfl (Sub.skip rfl (Sub.skip rfl (Sub.skip rfl (Sub.skip rfl (Sub.skip rfl (Sub.skip rfl (Sub.refl _)))))))))))))))))))))) hk
    refine o_pure (p_assign (v := .bool ((((Hash.sum s) == (Hash.sum t)) == ((Hash.sum (s ++ more)) == (Hash.sum (t ++ more)))) && (((((s.size : Int) != 1) || ((t.size : Int) != 1)) || decide (s = t)) || ((Hash.sum s) != (Hash.sum t))))) rfl) rfl rfl rfl ?_
    refine o_nil ?_
    refine q_then ?_
    refine c_ret ?_
    refine q_end0 (v := .bool ((((Hash.sum s) == (Hash.sum t)) == ((Hash.sum (s ++ more)) == (Hash.sum (t ++ more)))) && (((((s.size : Int) != 1) || ((t.size : Int) != 1)) || decide (s = t)) || ((Hash.sum s) != (Hash.sum t))))) (rt1 rfl (r_tmp rfl)) (i := 0) rfl ?_
    first | rfl | exact congrArg Value.bool (Hash.suffix_bool (by omega) (by omega) (by omega) (by omega))
end Go.Proofs.Ythbfdhphnofacaa
