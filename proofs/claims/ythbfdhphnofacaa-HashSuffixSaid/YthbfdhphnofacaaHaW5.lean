/- The walks, printed by a program from the translation and a specification. -/
import Derived.Test.YthbfdhphnofacaaHaF
import Derived.Test.YthbfdhphnofacaaHaPure
import Derived.Test.YthbfdhphnofacaaHaW3
namespace Go.Proofs.Ythbfdhphnofacaa
open Go.Sx Go.RowKit
set_option maxHeartbeats 8000000 in
set_option maxRecDepth 100000 in
theorem mixBegun_ok  : Fn0 Try.prog 16 [] (fun _ => True) (.bool true) := by
  refine fn0 (nt := 64) (F0 := []) Try.func16 rfl Try.ntmps16 rfl rfl (fun w0 hpre => ?_)
  refine c_seq ?_
  refine c_region ?_
  refine o_pure (p_assign (v := .bool false) rfl) rfl rfl rfl ?_
  refine o_nil ?_
  refine q_then ?_
  refine c_seq ?_
  refine c_region ?_
  refine o_call0 (v := .tuple #[.int .u64 ((Hash.sum (ByteArray.mk #[97])).toNat : Int), .int .i64 (Hash.sumErr (ByteArray.mk #[97]))]) rfl (sum_ok (ByteArray.mk #[97])) hf19 (fun w hw => (by first | assumption | omega | decide | (rw [ByteArray.size_append]; omega) | simp)) rfl ?_
  refine o_pure (p_move (v := .tuple #[.int .u64 ((Hash.sum (ByteArray.mk #[97])).toNat : Int), .int .i64 (Hash.sumErr (ByteArray.mk #[97]))]) rfl) rfl rfl rfl ?_
  refine o_pure (p_extract (vs := [.int .u64 ((Hash.sum (ByteArray.mk #[97])).toNat : Int), .int .i64 (Hash.sumErr (ByteArray.mk #[97]))]) (v := .int .u64 ((Hash.sum (ByteArray.mk #[97])).toNat : Int)) rfl rfl) rfl rfl rfl ?_
  refine o_pure (p_extract (vs := [.int .u64 ((Hash.sum (ByteArray.mk #[97])).toNat : Int), .int .i64 (Hash.sumErr (ByteArray.mk #[97]))]) (v := .int .i64 (Hash.sumErr (ByteArray.mk #[97]))) rfl rfl) rfl rfl rfl ?_
  refine o_pure (p_assign (v := .int .u64 ((Hash.sum (ByteArray.mk #[97])).toNat : Int)) rfl) rfl rfl rfl ?_
  refine o_pure (p_assign (v := .int .i64 (Hash.sumErr (ByteArray.mk #[97]))) rfl) rfl rfl rfl ?_
  refine o_nil ?_
  refine q_then ?_
  refine c_seq ?_
  refine c_region ?_
  refine o_call0 (v := .tuple #[.int .u64 ((Hash.sum (ByteArray.mk #[])).toNat : Int), .int .i64 (Hash.sumErr (ByteArray.mk #[]))]) rfl (sum_ok (ByteArray.mk #[])) hf19 (fun w hw => (by first | assumption | omega | decide | (rw [ByteArray.size_append]; omega) | simp)) rfl ?_
  refine o_pure (p_move (v := .tuple #[.int .u64 ((Hash.sum (ByteArray.mk #[])).toNat : Int), .int .i64 (Hash.sumErr (ByteArray.mk #[]))]) rfl) rfl rfl rfl ?_
  refine o_pure (p_extract (vs := [.int .u64 ((Hash.sum (ByteArray.mk #[])).toNat : Int), .int .i64 (Hash.sumErr (ByteArray.mk #[]))]) (v := .int .u64 ((Hash.sum (ByteArray.mk #[])).toNat : Int)) rfl rfl) rfl rfl rfl ?_
  refine o_pure (p_extract (vs := [.int .u64 ((Hash.sum (ByteArray.mk #[])).toNat : Int), .int .i64 (Hash.sumErr (ByteArray.mk #[]))]) (v := .int .i64 (Hash.sumErr (ByteArray.mk #[]))) rfl rfl) rfl rfl rfl ?_
  refine o_pure (p_assign (v := .int .u64 ((Hash.sum (ByteArray.mk #[])).toNat : Int)) rfl) rfl rfl rfl ?_
  refine o_pure (p_assign (v := .int .i64 (Hash.sumErr (ByteArray.mk #[]))) rfl) rfl rfl rfl ?_
  refine o_nil ?_
  refine q_then ?_
  refine c_seq ?_
  refine c_region ?_
  refine o_call0 (v := .tuple #[.int .i64 (Hash.reduce (9223372036854775808 : UInt64) 10), .int .i64 (Hash.reduceErr 10)]) rfl (reduce_ok (9223372036854775808 : UInt64) 10) hf18 (fun _ _ => trivial) rfl ?_
  refine o_pure (p_move (v := .tuple #[.int .i64 (Hash.reduce (9223372036854775808 : UInt64) 10), .int .i64 (Hash.reduceErr 10)]) rfl) rfl rfl rfl ?_
  refine o_pure (p_extract (vs := [.int .i64 (Hash.reduce (9223372036854775808 : UInt64) 10), .int .i64 (Hash.reduceErr 10)]) (v := .int .i64 (Hash.reduce (9223372036854775808 : UInt64) 10)) rfl rfl) rfl rfl rfl ?_
  refine o_pure (p_extract (vs := [.int .i64 (Hash.reduce (9223372036854775808 : UInt64) 10), .int .i64 (Hash.reduceErr 10)]) (v := .int .i64 (Hash.reduceErr 10)) rfl rfl) rfl rfl rfl ?_
  refine o_pure (p_assign (v := .int .i64 (Hash.reduce (9223372036854775808 : UInt64) 10)) rfl) rfl rfl rfl ?_
  refine o_pure (p_assign (v := .int .i64 (Hash.reduceErr 10)) rfl) rfl rfl rfl ?_
  refine o_nil ?_
  refine q_then ?_
  refine c_seq ?_
  refine c_region ?_
  refine o_call0 (v := .tuple #[.int .i64 (Hash.reduce (0 : UInt64) 0), .int .i64 (Hash.reduceErr 0)]) rfl (reduce_ok (0 : UInt64) 0) hf18 (fun _ _ => trivial) rfl ?_
  refine o_pure (p_move (v := .tuple #[.int .i64 (Hash.reduce (0 : UInt64) 0), .int .i64 (Hash.reduceErr 0)]) rfl) rfl rfl rfl ?_
  refine o_pure (p_extract (vs := [.int .i64 (Hash.reduce (0 : UInt64) 0), .int .i64 (Hash.reduceErr 0)]) (v := .int .i64 (Hash.reduce (0 : UInt64) 0)) rfl rfl) rfl rfl rfl ?_
  refine o_pure (p_extract (vs := [.int .i64 (Hash.reduce (0 : UInt64) 0), .int .i64 (Hash.reduceErr 0)]) (v := .int .i64 (Hash.reduceErr 0)) rfl rfl) rfl rfl rfl ?_
  refine o_pure (p_assign (v := .int .i64 (Hash.reduce (0 : UInt64) 0)) rfl) rfl rfl rfl ?_
  refine o_pure (p_assign (v := .int .i64 (Hash.reduceErr 0)) rfl) rfl rfl rfl ?_
  refine o_nil ?_
  refine q_then ?_
  refine c_seq ?_
  refine c_region ?_
  refine o_pure (p_move (v := .int .u64 ((Hash.sum (ByteArray.mk #[97])).toNat : Int)) rfl) rfl rfl rfl ?_
  refine o_pure (pu_eq (p := (Hash.sum (ByteArray.mk #[97]))) (q := (12638187200555641996 : UInt64)) rfl rfl) rfl rfl rfl ?_
  refine o_pure (p_move (v := .bool ((Hash.sum (ByteArray.mk #[97])) == (12638187200555641996 : UInt64))) rfl) rfl rfl rfl ?_
  refine o_and (p := 30) 3 ((Hash.sumErr (ByteArray.mk #[97])) == 0) ?_ ?_ ?_
  · intro hb1 hk
    simp only [beq_iff_eq] at hb1
    refine o_unguard 27 rfl rfl ?_
    refine o_pure (p_move (v := .int .i64 (Hash.sumErr (ByteArray.mk #[97]))) rfl) rfl rfl rfl ?_
    refine o_unguard 27 rfl rfl ?_
    refine o_pure (p_eq (p := (Hash.sumErr (ByteArray.mk #[97]))) (q := 0) rfl rfl) rfl rfl rfl ?_
    refine o_pure (p_pick_true (u := .bool ((Hash.sumErr (ByteArray.mk #[97])) == 0)) rfl rfl) rfl rfl rfl ?_
    exact o_sub (Sub.cons rfl (Sub.skip rfl (Sub.skip rfl (Sub.skip rfl (Sub.skip rfl (Sub.refl _)))))) hk
  · intro hb1 hk
    refine o_guard_no rfl 27 rfl rfl rfl rfl rfl ?_
    refine o_guard_no rfl 27 rfl rfl rfl rfl rfl ?_
    refine o_pure (p_pick_false (v := .bool false) rfl rfl) rfl rfl rfl ?_
    exact o_sub (Sub.cons rfl (Sub.skip rfl (Sub.skip rfl (Sub.skip rfl (Sub.skip rfl (Sub.refl _)))))) hk
  refine o_pure (p_move (v := .bool (((Hash.sum (ByteArray.mk #[97])) == (12638187200555641996 : UInt64)) && ((Hash.sumErr (ByteArray.mk #[97])) == 0))) rfl) rfl rfl rfl ?_
  refine o_and (p := 34) 3 ((Hash.sum (ByteArray.mk #[])) == (14695981039346656037 : UInt64)) ?_ ?_ ?_
  · intro hb2 hk
    simp only [Bool.and_eq_true, beq_iff_eq] at hb2
    refine o_unguard 31 rfl rfl ?_
    refine o_pure (p_move (v := .int .u64 ((Hash.sum (ByteArray.mk #[])).toNat : Int)) rfl) rfl rfl rfl ?_
    refine o_unguard 31 rfl rfl ?_
    refine o_pure (pu_eq (p := (Hash.sum (ByteArray.mk #[]))) (q := (14695981039346656037 : UInt64)) rfl rfl) rfl rfl rfl ?_
    refine o_pure (p_pick_true (u := .bool ((Hash.sum (ByteArray.mk #[])) == (14695981039346656037 : UInt64))) rfl rfl) rfl rfl rfl ?_
    exact o_sub (Sub.cons rfl (Sub.skip rfl (Sub.skip rfl (Sub.skip rfl (Sub.skip rfl (Sub.refl _)))))) hk
  · intro hb2 hk
    refine o_guard_no rfl 31 rfl rfl rfl rfl rfl ?_
    refine o_guard_no rfl 31 rfl rfl rfl rfl rfl ?_
    refine o_pure (p_pick_false (v := .bool false) rfl rfl) rfl rfl rfl ?_
    exact o_sub (Sub.cons rfl (Sub.skip rfl (Sub.skip rfl (Sub.skip rfl (Sub.skip rfl (Sub.refl _)))))) hk
  refine o_pure (p_move (v := .bool ((((Hash.sum (ByteArray.mk #[97])) == (12638187200555641996 : UInt64)) && ((Hash.sumErr (ByteArray.mk #[97])) == 0)) && ((Hash.sum (ByteArray.mk #[])) == (14695981039346656037 : UInt64)))) rfl) rfl rfl rfl ?_
  refine o_and (p := 38) 3 ((Hash.sumErr (ByteArray.mk #[])) == 0) ?_ ?_ ?_
  · intro hb3 hk
    simp only [Bool.and_eq_true, beq_iff_eq] at hb3
    refine o_unguard 35 rfl rfl ?_
    refine o_pure (p_move (v := .int .i64 (Hash.sumErr (ByteArray.mk #[]))) rfl) rfl rfl rfl ?_
    refine o_unguard 35 rfl rfl ?_
    refine o_pure (p_eq (p := (Hash.sumErr (ByteArray.mk #[]))) (q := 0) rfl rfl) rfl rfl rfl ?_
    refine o_pure (p_pick_true (u := .bool ((Hash.sumErr (ByteArray.mk #[])) == 0)) rfl rfl) rfl rfl rfl ?_
    exact o_sub (Sub.cons rfl (Sub.skip rfl (Sub.skip rfl (Sub.skip rfl (Sub.skip rfl (Sub.refl _)))))) hk
  · intro hb3 hk
    refine o_guard_no rfl 35 rfl rfl rfl rfl rfl ?_
    refine o_guard_no rfl 35 rfl rfl rfl rfl rfl ?_
    refine o_pure (p_pick_false (v := .bool false) rfl rfl) rfl rfl rfl ?_
    exact o_sub (Sub.cons rfl (Sub.skip rfl (Sub.skip rfl (Sub.skip rfl (Sub.skip rfl (Sub.refl _)))))) hk
  refine o_pure (p_move (v := .bool (((((Hash.sum (ByteArray.mk #[97])) == (12638187200555641996 : UInt64)) && ((Hash.sumErr (ByteArray.mk #[97])) == 0)) && ((Hash.sum (ByteArray.mk #[])) == (14695981039346656037 : UInt64))) && ((Hash.sumErr (ByteArray.mk #[])) == 0))) rfl) rfl rfl rfl ?_
  refine o_and (p := 42) 3 ((Hash.reduce (9223372036854775808 : UInt64) 10) == 5) ?_ ?_ ?_
  · intro hb4 hk
    simp only [Bool.and_eq_true, beq_iff_eq] at hb4
    refine o_unguard 39 rfl rfl ?_
    refine o_pure (p_move (v := .int .i64 (Hash.reduce (9223372036854775808 : UInt64) 10)) rfl) rfl rfl rfl ?_
    refine o_unguard 39 rfl rfl ?_
    refine o_pure (p_eq (p := (Hash.reduce (9223372036854775808 : UInt64) 10)) (q := 5) rfl rfl) rfl rfl rfl ?_
    refine o_pure (p_pick_true (u := .bool ((Hash.reduce (9223372036854775808 : UInt64) 10) == 5)) rfl rfl) rfl rfl rfl ?_
    exact o_sub (Sub.cons rfl (Sub.skip rfl (Sub.skip rfl (Sub.skip rfl (Sub.skip rfl (Sub.refl _)))))) hk
  · intro hb4 hk
    refine o_guard_no rfl 39 rfl rfl rfl rfl rfl ?_
    refine o_guard_no rfl 39 rfl rfl rfl rfl rfl ?_
    refine o_pure (p_pick_false (v := .bool false) rfl rfl) rfl rfl rfl ?_
    exact o_sub (Sub.cons rfl (Sub.skip rfl (Sub.skip rfl (Sub.skip rfl (Sub.skip rfl (Sub.refl _)))))) hk
  refine o_pure (p_move (v := .bool ((((((Hash.sum (ByteArray.mk #[97])) == (12638187200555641996 : UInt64)) && ((Hash.sumErr (ByteArray.mk #[97])) == 0)) && ((Hash.sum (ByteArray.mk #[])) == (14695981039346656037 : UInt64))) && ((Hash.sumErr (ByteArray.mk #[])) == 0)) && ((Hash.reduce (9223372036854775808 : UInt64) 10) == 5))) rfl) rfl rfl rfl ?_
  refine o_and (p := 46) 3 ((Hash.reduceErr 10) == 0) ?_ ?_ ?_
  · intro hb5 hk
    simp only [Bool.and_eq_true, beq_iff_eq] at hb5
    refine o_unguard 43 rfl rfl ?_
    refine o_pure (p_move (v := .int .i64 (Hash.reduceErr 10)) rfl) rfl rfl rfl ?_
    refine o_unguard 43 rfl rfl ?_
    refine o_pure (p_eq (p := (Hash.reduceErr 10)) (q := 0) rfl rfl) rfl rfl rfl ?_
    refine o_pure (p_pick_true (u := .bool ((Hash.reduceErr 10) == 0)) rfl rfl) rfl rfl rfl ?_
    exact o_sub (Sub.cons rfl (Sub.skip rfl (Sub.skip rfl (Sub.skip rfl (Sub.skip rfl (Sub.refl _)))))) hk
  · intro hb5 hk
    refine o_guard_no rfl 43 rfl rfl rfl rfl rfl ?_
    refine o_guard_no rfl 43 rfl rfl rfl rfl rfl ?_
    refine o_pure (p_pick_false (v := .bool false) rfl rfl) rfl rfl rfl ?_
    exact o_sub (Sub.cons rfl (Sub.skip rfl (Sub.skip rfl (Sub.skip rfl (Sub.skip rfl (Sub.refl _)))))) hk
  refine o_pure (p_move (v := .bool (((((((Hash.sum (ByteArray.mk #[97])) == (12638187200555641996 : UInt64)) && ((Hash.sumErr (ByteArray.mk #[97])) == 0)) && ((Hash.sum (ByteArray.mk #[])) == (14695981039346656037 : UInt64))) && ((Hash.sumErr (ByteArray.mk #[])) == 0)) && ((Hash.reduce (9223372036854775808 : UInt64) 10) == 5)) && ((Hash.reduceErr 10) == 0))) rfl) rfl rfl rfl ?_
  refine o_and (p := 50) 3 ((Hash.reduceErr 0) == 3) ?_ ?_ ?_
  · intro hb6 hk
    simp only [Bool.and_eq_true, beq_iff_eq] at hb6
    refine o_unguard 47 rfl rfl ?_
    refine o_pure (p_move (v := .int .i64 (Hash.reduceErr 0)) rfl) rfl rfl rfl ?_
    refine o_unguard 47 rfl rfl ?_
    refine o_pure (p_eq (p := (Hash.reduceErr 0)) (q := 3) rfl rfl) rfl rfl rfl ?_
    refine o_pure (p_pick_true (u := .bool ((Hash.reduceErr 0) == 3)) rfl rfl) rfl rfl rfl ?_
    exact o_sub (Sub.cons rfl (Sub.skip rfl (Sub.skip rfl (Sub.skip rfl (Sub.skip rfl (Sub.refl _)))))) hk
  · intro hb6 hk
    refine o_guard_no rfl 47 rfl rfl rfl rfl rfl ?_
    refine o_guard_no rfl 47 rfl rfl rfl rfl rfl ?_
    refine o_pure (p_pick_false (v := .bool false) rfl rfl) rfl rfl rfl ?_
    exact o_sub (Sub.cons rfl (Sub.skip rfl (Sub.skip rfl (Sub.skip rfl (Sub.skip rfl (Sub.refl _)))))) hk
  refine o_pure (p_move (v := .bool ((((((((Hash.sum (ByteArray.mk #[97])) == (12638187200555641996 : UInt64)) && ((Hash.sumErr (ByteArray.mk #[97])) == 0)) && ((Hash.sum (ByteArray.mk #[])) == (14695981039346656037 : UInt64))) && ((Hash.sumErr (ByteArray.mk #[])) == 0)) && ((Hash.reduce (9223372036854775808 : UInt64) 10) == 5)) && ((Hash.reduceErr 10) == 0)) && ((Hash.reduceErr 0) == 3))) rfl) rfl rfl rfl ?_
  refine o_and (p := 54) 3 ((Hash.mix (0 : UInt64)) == (0 : UInt64)) ?_ ?_ ?_
  · intro hb7 hk
    simp only [Bool.and_eq_true, beq_iff_eq] at hb7
    refine o_unguard 51 rfl rfl ?_
    refine o_call0 (v := .int .u64 ((Hash.mix (0 : UInt64)).toNat : Int)) rfl (mix_ok (0 : UInt64)) hf15 (fun _ _ => trivial) rfl ?_
    refine o_unguard 51 rfl rfl ?_
    refine o_pure (pu_eq (p := (Hash.mix (0 : UInt64))) (q := (0 : UInt64)) rfl rfl) rfl rfl rfl ?_
    refine o_pure (p_pick_true (u := .bool ((Hash.mix (0 : UInt64)) == (0 : UInt64))) rfl rfl) rfl rfl rfl ?_
    exact o_sub (Sub.cons rfl (Sub.skip rfl (Sub.skip rfl (Sub.skip rfl (Sub.skip rfl (Sub.refl _)))))) hk
  · intro hb7 hk
    refine o_guard_no rfl 51 rfl rfl rfl rfl rfl ?_
    refine o_guard_no rfl 51 rfl rfl rfl rfl rfl ?_
    refine o_pure (p_pick_false (v := .bool false) rfl rfl) rfl rfl rfl ?_
    exact o_sub (Sub.cons rfl (Sub.skip rfl (Sub.skip rfl (Sub.skip rfl (Sub.skip rfl (Sub.refl _)))))) hk
  refine o_pure (p_move (v := .bool (((((((((Hash.sum (ByteArray.mk #[97])) == (12638187200555641996 : UInt64)) && ((Hash.sumErr (ByteArray.mk #[97])) == 0)) && ((Hash.sum (ByteArray.mk #[])) == (14695981039346656037 : UInt64))) && ((Hash.sumErr (ByteArray.mk #[])) == 0)) && ((Hash.reduce (9223372036854775808 : UInt64) 10) == 5)) && ((Hash.reduceErr 10) == 0)) && ((Hash.reduceErr 0) == 3)) && ((Hash.mix (0 : UInt64)) == (0 : UInt64)))) rfl) rfl rfl rfl ?_
  refine o_and (p := 59) 4 ((Hash.unmix (Hash.mix (12345 : UInt64))) == (12345 : UInt64)) ?_ ?_ ?_
  · intro hb8 hk
    simp only [Bool.and_eq_true, beq_iff_eq] at hb8
    refine o_unguard 55 rfl rfl ?_
    refine o_call0 (v := .int .u64 ((Hash.mix (12345 : UInt64)).toNat : Int)) rfl (mix_ok (12345 : UInt64)) hf15 (fun _ _ => trivial) rfl ?_
    refine o_unguard 55 rfl rfl ?_
    refine o_call0 (v := .int .u64 ((Hash.unmix (Hash.mix (12345 : UInt64))).toNat : Int)) rfl (unmix_ok (Hash.mix (12345 : UInt64))) hf17 (fun _ _ => trivial) rfl ?_
    refine o_unguard 55 rfl rfl ?_
    refine o_pure (pu_eq (p := (Hash.unmix (Hash.mix (12345 : UInt64)))) (q := (12345 : UInt64)) rfl rfl) rfl rfl rfl ?_
    refine o_pure (p_pick_true (u := .bool ((Hash.unmix (Hash.mix (12345 : UInt64))) == (12345 : UInt64))) rfl rfl) rfl rfl rfl ?_
    exact o_sub (Sub.cons rfl (Sub.skip rfl (Sub.skip rfl (Sub.skip rfl (Sub.skip rfl (Sub.skip rfl (Sub.refl _))))))) hk
  · intro hb8 hk
    refine o_guard_no rfl 55 rfl rfl rfl rfl rfl ?_
    refine o_guard_no rfl 55 rfl rfl rfl rfl rfl ?_
    refine o_guard_no rfl 55 rfl rfl rfl rfl rfl ?_
    refine o_pure (p_pick_false (v := .bool false) rfl rfl) rfl rfl rfl ?_
    exact o_sub (Sub.cons rfl (Sub.skip rfl (Sub.skip rfl (Sub.skip rfl (Sub.skip rfl (Sub.skip rfl (Sub.refl _))))))) hk
  refine o_pure (p_move (v := .bool ((((((((((Hash.sum (ByteArray.mk #[97])) == (12638187200555641996 : UInt64)) && ((Hash.sumErr (ByteArray.mk #[97])) == 0)) && ((Hash.sum (ByteArray.mk #[])) == (14695981039346656037 : UInt64))) && ((Hash.sumErr (ByteArray.mk #[])) == 0)) && ((Hash.reduce (9223372036854775808 : UInt64) 10) == 5)) && ((Hash.reduceErr 10) == 0)) && ((Hash.reduceErr 0) == 3)) && ((Hash.mix (0 : UInt64)) == (0 : UInt64))) && ((Hash.unmix (Hash.mix (12345 : UInt64))) == (12345 : UInt64)))) rfl) rfl rfl rfl ?_
  refine o_and (p := 63) 3 ((Hash.mix (1 : UInt64)) != (1 : UInt64)) ?_ ?_ ?_
  · intro hb9 hk
    simp only [Bool.and_eq_true, beq_iff_eq] at hb9
    refine o_unguard 60 rfl rfl ?_
    refine o_call0 (v := .int .u64 ((Hash.mix (1 : UInt64)).toNat : Int)) rfl (mix_ok (1 : UInt64)) hf15 (fun _ _ => trivial) rfl ?_
    refine o_unguard 60 rfl rfl ?_
    refine o_pure (pu_ne (p := (Hash.mix (1 : UInt64))) (q := (1 : UInt64)) rfl rfl) rfl rfl rfl ?_
    refine o_pure (p_pick_true (u := .bool ((Hash.mix (1 : UInt64)) != (1 : UInt64))) rfl rfl) rfl rfl rfl ?_
    exact o_sub (Sub.cons rfl (Sub.skip rfl (Sub.skip rfl (Sub.skip rfl (Sub.skip rfl (Sub.refl _)))))) hk
  · intro hb9 hk
    refine o_guard_no rfl 60 rfl rfl rfl rfl rfl ?_
    refine o_guard_no rfl 60 rfl rfl rfl rfl rfl ?_
    refine o_pure (p_pick_false (v := .bool false) rfl rfl) rfl rfl rfl ?_
    exact o_sub (Sub.cons rfl (Sub.skip rfl (Sub.skip rfl (Sub.skip rfl (Sub.skip rfl (Sub.refl _)))))) hk
  refine o_pure (p_assign (v := .bool (((((((((((Hash.sum (ByteArray.mk #[97])) == (12638187200555641996 : UInt64)) && ((Hash.sumErr (ByteArray.mk #[97])) == 0)) && ((Hash.sum (ByteArray.mk #[])) == (14695981039346656037 : UInt64))) && ((Hash.sumErr (ByteArray.mk #[])) == 0)) && ((Hash.reduce (9223372036854775808 : UInt64) 10) == 5)) && ((Hash.reduceErr 10) == 0)) && ((Hash.reduceErr 0) == 3)) && ((Hash.mix (0 : UInt64)) == (0 : UInt64))) && ((Hash.unmix (Hash.mix (12345 : UInt64))) == (12345 : UInt64))) && ((Hash.mix (1 : UInt64)) != (1 : UInt64)))) rfl) rfl rfl rfl ?_
  refine o_nil ?_
  refine q_then ?_
  refine c_ret ?_
  refine q_end0 (v := .bool (((((((((((Hash.sum (ByteArray.mk #[97])) == (12638187200555641996 : UInt64)) && ((Hash.sumErr (ByteArray.mk #[97])) == 0)) && ((Hash.sum (ByteArray.mk #[])) == (14695981039346656037 : UInt64))) && ((Hash.sumErr (ByteArray.mk #[])) == 0)) && ((Hash.reduce (9223372036854775808 : UInt64) 10) == 5)) && ((Hash.reduceErr 10) == 0)) && ((Hash.reduceErr 0) == 3)) && ((Hash.mix (0 : UInt64)) == (0 : UInt64))) && ((Hash.unmix (Hash.mix (12345 : UInt64))) == (12345 : UInt64))) && ((Hash.mix (1 : UInt64)) != (1 : UInt64)))) (rt1 rfl (r_tmp rfl)) (i := 0) rfl ?_
  first | rfl | decide +kernel
end Go.Proofs.Ythbfdhphnofacaa
