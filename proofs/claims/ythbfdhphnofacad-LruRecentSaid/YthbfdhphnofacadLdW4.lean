/- The walks, printed by a program from the translation and a specification. -/
import Derived.Test.YthbfdhphnofacadLdF
import Derived.Test.YthbfdhphnofacadLrLaw2
import Derived.Test.YthbfdhphnofacadLdW2
namespace Go.Proofs.Ythbfdhphnofacad
open Go.Sx Go.RowKit
set_option maxHeartbeats 8000000 in
set_option maxRecDepth 100000 in
theorem sameCache_ok (a : DCache) (aa_0 : Option Addr) (ca_0 : Nat) (b : DCache) (ab_0 : Option Addr) (cb_0 : Nat) : Fn0 Try.prog 18 [.agg #[.int .i64 a.room, .slice aa_0 a.keys.length ca_0], .agg #[.int .i64 b.room, .slice ab_0 b.keys.length cb_0]] (fun w => Rd tInt w aa_0 ca_0 a.keys ∧ Rd tInt w ab_0 cb_0 b.keys) (.bool (decide (a = b))) := by
  refine fn0 (nt := 17) (F0 := [(0, .agg #[.int .i64 a.room, .slice aa_0 a.keys.length ca_0]), (1, .agg #[.int .i64 b.room, .slice ab_0 b.keys.length cb_0])]) Try.func18 rfl Try.ntmps18 rfl rfl (fun w0 hpre => ?_)
  obtain ⟨ha_0, hb_0⟩ := hpre
  have hlha_0 := ha_0.2.1
  have hlhb_0 := hb_0.2.1
  refine c_seq ?_
  refine c_region ?_
  refine o_box (v := .agg #[.int .i64 a.room, .slice aa_0 a.keys.length ca_0]) rfl rfl (fun B1 => ?_)
  refine o_box (v := .agg #[.int .i64 b.room, .slice ab_0 b.keys.length cb_0]) rfl rfl (fun B2 => ?_)
  refine o_pure (p_assign (v := .bool false) rfl) rfl rfl rfl ?_
  refine o_nil ?_
  refine q_then ?_
  refine c_seq ?_
  refine c_region ?_
  refine o_pure (p_fieldAddr (B := B1) (j := 0) (j' := 0) rfl fo24_0 rfl) rfl rfl rfl ?_
  refine o_pure (p_load (i := 1) (v := .int .i64 a.room) rfl rfl sh3 rfl) rfl rfl rfl ?_
  refine o_pure (p_fieldAddr (B := B2) (j := 0) (j' := 0) rfl fo24_0 rfl) rfl rfl rfl ?_
  refine o_pure (p_load (i := 0) (v := .int .i64 b.room) rfl rfl sh3 rfl) rfl rfl rfl ?_
  refine o_pure (p_eq (p := a.room) (q := b.room) rfl rfl) rfl rfl rfl ?_
  refine o_pure (p_move (v := .bool (a.room == b.room)) rfl) rfl rfl rfl ?_
  refine o_and (p := 16) 6 (Ref.sameInts a.keys b.keys) ?_ ?_ ?_
  · intro hb3 hk
    simp only [beq_iff_eq] at hb3
    refine o_unguard 10 rfl rfl ?_
    refine o_pure (p_fieldAddr (B := B1) (j := 0) (j' := 1) rfl fo24_1 rfl) rfl rfl rfl ?_
    refine o_unguard 10 rfl rfl ?_
    refine o_pure (p_load (i := 1) (v := .slice aa_0 a.keys.length ca_0) rfl rfl sh22 rfl) rfl rfl rfl ?_
    refine o_unguard 10 rfl rfl ?_
    refine o_pure (p_fieldAddr (B := B2) (j := 0) (j' := 1) rfl fo24_1 rfl) rfl rfl rfl ?_
    refine o_unguard 10 rfl rfl ?_
    refine o_pure (p_load (i := 0) (v := .slice ab_0 b.keys.length cb_0) rfl rfl sh22 rfl) rfl rfl rfl ?_
    refine o_unguard 10 rfl rfl ?_
    refine o_call0 (v := .bool (Ref.sameInts a.keys b.keys)) rfl (sameInts_ok a.keys aa_0 ca_0 b.keys ab_0 cb_0) hf17 (fun w hw => ⟨(rd_base (i := 2) rfl ha_0) w hw, (rd_base (i := 2) rfl hb_0) w hw⟩) rfl ?_
    refine o_pure (p_pick_true (u := .bool (Ref.sameInts a.keys b.keys)) rfl rfl) rfl rfl rfl ?_
    exact o_sub (Sub.cons rfl (Sub.skip rfl (Sub.skip rfl (Sub.skip rfl (Sub.skip rfl (Sub.skip rfl (Sub.skip rfl (Sub.skip rfl (Sub.refl _))))))))) hk
  · intro hb3 hk
    refine o_guard_no rfl 10 rfl rfl rfl rfl rfl ?_
    refine o_guard_no rfl 10 rfl rfl rfl rfl rfl ?_
    refine o_guard_no rfl 10 rfl rfl rfl rfl rfl ?_
    refine o_guard_no rfl 10 rfl rfl rfl rfl rfl ?_
    refine o_guard_no rfl 10 rfl rfl rfl rfl rfl ?_
    refine o_pure (p_pick_false (v := .bool false) rfl rfl) rfl rfl rfl ?_
    exact o_sub (Sub.cons rfl (Sub.skip rfl (Sub.skip rfl (Sub.skip rfl (Sub.skip rfl (Sub.skip rfl (Sub.skip rfl (Sub.skip rfl (Sub.refl _))))))))) hk
  refine o_pure (p_assign (v := .bool ((a.room == b.room) && (Ref.sameInts a.keys b.keys))) rfl) rfl rfl rfl ?_
  refine o_nil ?_
  refine q_then ?_
  refine c_ret ?_
  have hr0 : (((a.room == b.room) && (Ref.sameInts a.keys b.keys)) : Bool) = (decide (a = b)) := by
    rw [Bool.eq_iff_iff]; simp [Ref.sameInts, Lru.same_cache]
  refine q_end0 (v := .bool ((a.room == b.room) && (Ref.sameInts a.keys b.keys))) (rt1 rfl (r_tmp rfl)) (i := 2) rfl ?_
  exact (by have hcc := congrArg (fun (y0 : Bool) => (.bool y0 : Value)) hr0; exact hcc)
end Go.Proofs.Ythbfdhphnofacad
