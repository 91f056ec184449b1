/- The walks, printed by a program from the translation and a specification. -/
import Derived.Test.YthbfdhphnofacaaHaF
import Derived.Test.YthbfdhphnofacaaHaPure
import Derived.Test.YthbfdhphnofacaaHaW5
import Derived.Test.YthbfdhphnofacaaHaLaw
namespace Go.Proofs.Ythbfdhphnofacaa
open Go.Sx Go.RowKit
set_option maxHeartbeats 8000000 in
set_option maxRecDepth 100000 in
theorem hashInverse_ok (a : UInt64) (b : UInt64) : Fn0 Try.prog 3 [.int .u64 (a.toNat : Int), .int .u64 (b.toNat : Int)] (fun _ => True) (.bool true) := by
  refine fn0 (nt := 34) (F0 := [(0, .int .u64 (a.toNat : Int)), (1, .int .u64 (b.toNat : Int))]) Try.func3 rfl Try.ntmps3 rfl rfl (fun w0 hpre => ?_)
  refine c_seq ?_
  refine c_region ?_
  refine o_pure (p_assign (v := .bool false) rfl) rfl rfl rfl ?_
  refine o_nil ?_
  refine q_then ?_
  refine c_seq ?_
  refine c_region ?_
  refine o_pure (p_move (v := .int .u64 (a.toNat : Int)) rfl) rfl rfl rfl ?_
  refine o_call0 (v := .int .u64 ((Hash.mix a).toNat : Int)) rfl (mix_ok a) hf15 (fun _ _ => trivial) rfl ?_
  refine o_pure (p_move (v := .int .u64 (b.toNat : Int)) rfl) rfl rfl rfl ?_
  refine o_call0 (v := .int .u64 ((Hash.mix b).toNat : Int)) rfl (mix_ok b) hf15 (fun _ _ => trivial) rfl ?_
  refine o_pure (p_assign (v := .int .u64 ((Hash.mix a).toNat : Int)) rfl) rfl rfl rfl ?_
  refine o_pure (p_assign (v := .int .u64 ((Hash.mix b).toNat : Int)) rfl) rfl rfl rfl ?_
  refine o_nil ?_
  refine q_then ?_
  refine c_seq ?_
  refine c_region ?_
  refine o_call0 (v := .bool true) rfl (mixBegun_ok ) hf16 (fun _ _ => trivial) rfl ?_
  refine o_pure (p_move (v := .bool true) rfl) rfl rfl rfl ?_
  refine o_unguard 12 rfl rfl ?_
  refine o_pure (p_move (v := .int .u64 ((Hash.mix a).toNat : Int)) rfl) rfl rfl rfl ?_
  refine o_unguard 12 rfl rfl ?_
  refine o_call0 (v := .int .u64 ((Hash.unmix (Hash.mix a)).toNat : Int)) rfl (unmix_ok (Hash.mix a)) hf17 (fun _ _ => trivial) rfl ?_
  refine o_unguard 12 rfl rfl ?_
  refine o_pure (p_move (v := .int .u64 (a.toNat : Int)) rfl) rfl rfl rfl ?_
  refine o_unguard 12 rfl rfl ?_
  refine o_pure (pu_eq (p := (Hash.unmix (Hash.mix a))) (q := a) rfl rfl) rfl rfl rfl ?_
  refine o_pure (p_pick_true (u := .bool ((Hash.unmix (Hash.mix a)) == a)) rfl rfl) rfl rfl rfl ?_
  refine o_pure (p_move (v := .bool ((Hash.unmix (Hash.mix a)) == a)) rfl) rfl rfl rfl ?_
  refine o_and (p := 24) 6 ((Hash.mix (Hash.unmix a)) == a) ?_ ?_ ?_
  · intro hb1 hk
    simp only [beq_iff_eq] at hb1
    refine o_unguard 18 rfl rfl ?_
    refine o_pure (p_move (v := .int .u64 (a.toNat : Int)) rfl) rfl rfl rfl ?_
    refine o_unguard 18 rfl rfl ?_
    refine o_call0 (v := .int .u64 ((Hash.unmix a).toNat : Int)) rfl (unmix_ok a) hf17 (fun _ _ => trivial) rfl ?_
    refine o_unguard 18 rfl rfl ?_
    refine o_call0 (v := .int .u64 ((Hash.mix (Hash.unmix a)).toNat : Int)) rfl (mix_ok (Hash.unmix a)) hf15 (fun _ _ => trivial) rfl ?_
    refine o_unguard 18 rfl rfl ?_
    refine o_pure (p_move (v := .int .u64 (a.toNat : Int)) rfl) rfl rfl rfl ?_
    refine o_unguard 18 rfl rfl ?_
    refine o_pure (pu_eq (p := (Hash.mix (Hash.unmix a))) (q := a) rfl rfl) rfl rfl rfl ?_
    refine o_pure (p_pick_true (u := .bool ((Hash.mix (Hash.unmix a)) == a)) rfl rfl) rfl rfl rfl ?_
    exact o_sub (Sub.cons rfl (Sub.skip rfl (Sub.skip rfl (Sub.skip rfl (Sub.skip rfl (Sub.skip rfl (Sub.skip rfl (Sub.skip rfl (Sub.refl _))))))))) hk
  · intro hb1 hk
    refine o_guard_no rfl 18 rfl rfl rfl rfl rfl ?_
    refine o_guard_no rfl 18 rfl rfl rfl rfl rfl ?_
    refine o_guard_no rfl 18 rfl rfl rfl rfl rfl ?_
    refine o_guard_no rfl 18 rfl rfl rfl rfl rfl ?_
    refine o_guard_no rfl 18 rfl rfl rfl rfl rfl ?_
    refine o_pure (p_pick_false (v := .bool false) rfl rfl) rfl rfl rfl ?_
    exact o_sub (Sub.cons rfl (Sub.skip rfl (Sub.skip rfl (Sub.skip rfl (Sub.skip rfl (Sub.skip rfl (Sub.skip rfl (Sub.skip rfl (Sub.refl _))))))))) hk
  refine o_pure (p_move (v := .bool (((Hash.unmix (Hash.mix a)) == a) && ((Hash.mix (Hash.unmix a)) == a))) rfl) rfl rfl rfl ?_
  refine o_and (p := 33) 8 (((Hash.mix a) == (Hash.mix b)) == (a == b)) ?_ ?_ ?_
  · intro hb2 hk
    simp only [Bool.and_eq_true, beq_iff_eq] at hb2
    refine o_unguard 25 rfl rfl ?_
    refine o_pure (p_move (v := .int .u64 ((Hash.mix a).toNat : Int)) rfl) rfl rfl rfl ?_
    refine o_unguard 25 rfl rfl ?_
    refine o_pure (p_move (v := .int .u64 ((Hash.mix b).toNat : Int)) rfl) rfl rfl rfl ?_
    refine o_unguard 25 rfl rfl ?_
    refine o_pure (pu_eq (p := (Hash.mix a)) (q := (Hash.mix b)) rfl rfl) rfl rfl rfl ?_
    refine o_unguard 25 rfl rfl ?_
    refine o_pure (p_move (v := .int .u64 (a.toNat : Int)) rfl) rfl rfl rfl ?_
    refine o_unguard 25 rfl rfl ?_
    refine o_pure (p_move (v := .int .u64 (b.toNat : Int)) rfl) rfl rfl rfl ?_
    refine o_unguard 25 rfl rfl ?_
    refine o_pure (pu_eq (p := a) (q := b) rfl rfl) rfl rfl rfl ?_
    refine o_unguard 25 rfl rfl ?_
    refine o_pure (p_eqBool (b := ((Hash.mix a) == (Hash.mix b))) (c := (a == b)) rfl rfl Try.underlying4) rfl rfl rfl ?_
    refine o_pure (p_pick_true (u := .bool (((Hash.mix a) == (Hash.mix b)) == (a == b))) rfl rfl) rfl rfl rfl ?_
    exact o_sub (Sub.cons rfl (Sub.skip rfl (Sub.skip rfl (Sub.skip rfl (Sub.skip rfl (Sub.skip rfl (Sub.skip rfl (Sub.skip rfl (Sub.skip rfl (Sub.skip rfl (Sub.refl _))))))))))) hk
  · intro hb2 hk
    refine o_guard_no rfl 25 rfl rfl rfl rfl rfl ?_
    refine o_guard_no rfl 25 rfl rfl rfl rfl rfl ?_
    refine o_guard_no rfl 25 rfl rfl rfl rfl rfl ?_
    refine o_guard_no rfl 25 rfl rfl rfl rfl rfl ?_
    refine o_guard_no rfl 25 rfl rfl rfl rfl rfl ?_
    refine o_guard_no rfl 25 rfl rfl rfl rfl rfl ?_
    refine o_guard_no rfl 25 rfl rfl rfl rfl rfl ?_
    refine o_pure (p_pick_false (v := .bool false) rfl rfl) rfl rfl rfl ?_
    exact o_sub (Sub.cons rfl (Sub.skip rfl (Sub.skip rfl (Sub.skip rfl (Sub.skip rfl (Sub.skip rfl (Sub.skip rfl (Sub.skip rfl (Sub.skip rfl (Sub.skip rfl (Sub.refl _))))))))))) hk
  refine o_pure (p_assign (v := .bool ((((Hash.unmix (Hash.mix a)) == a) && ((Hash.mix (Hash.unmix a)) == a)) && (((Hash.mix a) == (Hash.mix b)) == (a == b)))) rfl) rfl rfl rfl ?_
  refine o_nil ?_
  refine q_then ?_
  refine c_ret ?_
  refine q_end0 (v := .bool ((((Hash.unmix (Hash.mix a)) == a) && ((Hash.mix (Hash.unmix a)) == a)) && (((Hash.mix a) == (Hash.mix b)) == (a == b)))) (rt1 rfl (r_tmp rfl)) (i := 0) rfl ?_
  rw [Hash.unmix_mix, Hash.mix_unmix, Hash.mix_inj]; simp
end Go.Proofs.Ythbfdhphnofacaa
