/- The walks, printed by a program from the translation and a specification. -/
import Derived.Test.YtkndekkacimekaaTdF
import Derived.Test.YtkndekkacimekaaTdLaw
import Derived.Test.YtkndekkacimekaaTdW4
namespace Go.Proofs.Ytkndekkacimekaa
open Go.Sx Go.RowKit
set_option maxHeartbeats 8000000 in
set_option maxRecDepth 100000 in
theorem tbegun_ok  : Fn0 Try.prog 43 [] (fun _ => True) (.bool true) := by
  refine fn0 (nt := 23) (F0 := []) Try.func43 rfl Try.ntmps43 rfl rfl (fun w0 hpre => ?_)
  refine c_seq ?_
  refine c_region ?_
  refine o_pure (p_assign (v := .bool false) rfl) rfl rfl rfl ?_
  refine o_nil ?_
  refine q_then ?_
  refine c_seq ?_
  refine c_region ?_
  refine o_pure (p_build (cells := [.int .i64 2, .slice none 0 0]) fp54 ze54 rfl rfl) rfl rfl rfl ?_
  refine o_buildSlice (m := 4) (T := tInt) (L := [1, 2, 1, 3]) (vs := [.int .i64 1, .int .i64 2, .int .i64 1, .int .i64 3]) rfl rfl rfl rfl Try.underlying30 sz3 (by decide) ze3 rfl (by decide) rfl (fun S1 a2 => ?_)
  refine o_callM rfl (lrun_ok (⟨2, []⟩ : DCache) none 0 ([1, 2, 1, 3]) a2 ([1, 2, 1, 3].length)) hf32 (fun w hw => ⟨rd_nil w hw, (rd_own (i := 0) rfl) w hw⟩) rfl (fun _ _ _ _ ha hA => SlO.agree ha hA) ?_
  rintro ⟨a6, c7⟩ S4
  refine o_know (fun w hw => own_len (i := 0) (T := tInt) hw rfl) (fun hlr8 => ?_)
  refine o_pure (p_move (v := .tuple #[.agg #[.int .i64 (((Lru.run (⟨2, []⟩ : DCache) ([1, 2, 1, 3])).1).room), .slice a6 (((Lru.run (⟨2, []⟩ : DCache) ([1, 2, 1, 3])).1).keys).length c7], .int .i64 ((Lru.run (⟨2, []⟩ : DCache) ([1, 2, 1, 3])).2), .int .i64 (Lru.runErr (⟨2, []⟩ : DCache) ([1, 2, 1, 3]))]) rfl) rfl rfl rfl ?_
  refine o_pure (p_extract (vs := [.agg #[.int .i64 (((Lru.run (⟨2, []⟩ : DCache) ([1, 2, 1, 3])).1).room), .slice a6 (((Lru.run (⟨2, []⟩ : DCache) ([1, 2, 1, 3])).1).keys).length c7], .int .i64 ((Lru.run (⟨2, []⟩ : DCache) ([1, 2, 1, 3])).2), .int .i64 (Lru.runErr (⟨2, []⟩ : DCache) ([1, 2, 1, 3]))]) (v := .agg #[.int .i64 (((Lru.run (⟨2, []⟩ : DCache) ([1, 2, 1, 3])).1).room), .slice a6 (((Lru.run (⟨2, []⟩ : DCache) ([1, 2, 1, 3])).1).keys).length c7]) rfl rfl) rfl rfl rfl ?_
  refine o_pure (p_extract (vs := [.agg #[.int .i64 (((Lru.run (⟨2, []⟩ : DCache) ([1, 2, 1, 3])).1).room), .slice a6 (((Lru.run (⟨2, []⟩ : DCache) ([1, 2, 1, 3])).1).keys).length c7], .int .i64 ((Lru.run (⟨2, []⟩ : DCache) ([1, 2, 1, 3])).2), .int .i64 (Lru.runErr (⟨2, []⟩ : DCache) ([1, 2, 1, 3]))]) (v := .int .i64 ((Lru.run (⟨2, []⟩ : DCache) ([1, 2, 1, 3])).2)) rfl rfl) rfl rfl rfl ?_
  refine o_pure (p_extract (vs := [.agg #[.int .i64 (((Lru.run (⟨2, []⟩ : DCache) ([1, 2, 1, 3])).1).room), .slice a6 (((Lru.run (⟨2, []⟩ : DCache) ([1, 2, 1, 3])).1).keys).length c7], .int .i64 ((Lru.run (⟨2, []⟩ : DCache) ([1, 2, 1, 3])).2), .int .i64 (Lru.runErr (⟨2, []⟩ : DCache) ([1, 2, 1, 3]))]) (v := .int .i64 (Lru.runErr (⟨2, []⟩ : DCache) ([1, 2, 1, 3]))) rfl rfl) rfl rfl rfl ?_
  refine o_alloc ze54 rfl (fun B9 => ?_)
  refine o_storeN (i := 0) (vs := [.int .i64 (((Lru.run (⟨2, []⟩ : DCache) ([1, 2, 1, 3])).1).room), .slice a6 (((Lru.run (⟨2, []⟩ : DCache) ([1, 2, 1, 3])).1).keys).length c7]) (cs' := [.int .i64 (((Lru.run (⟨2, []⟩ : DCache) ([1, 2, 1, 3])).1).room), .slice a6 (((Lru.run (⟨2, []⟩ : DCache) ([1, 2, 1, 3])).1).keys).length c7]) rfl rfl rfl sz54 rfl rfl rfl rfl ?_
  refine o_pure (p_assign (v := .int .i64 ((Lru.run (⟨2, []⟩ : DCache) ([1, 2, 1, 3])).2)) rfl) rfl rfl rfl ?_
  refine o_pure (p_assign (v := .int .i64 (Lru.runErr (⟨2, []⟩ : DCache) ([1, 2, 1, 3]))) rfl) rfl rfl rfl ?_
  refine o_nil ?_
  refine q_then ?_
  refine c_seq ?_
  refine c_region ?_
  refine o_pure (p_move (v := .int .i64 (Lru.runErr (⟨2, []⟩ : DCache) ([1, 2, 1, 3]))) rfl) rfl rfl rfl ?_
  refine o_pure (p_eq (p := (Lru.runErr (⟨2, []⟩ : DCache) ([1, 2, 1, 3]))) (q := 0) rfl rfl) rfl rfl rfl ?_
  refine o_pure (p_move (v := .bool ((Lru.runErr (⟨2, []⟩ : DCache) ([1, 2, 1, 3])) == 0)) rfl) rfl rfl rfl ?_
  refine o_and (p := 16) 3 (((Lru.run (⟨2, []⟩ : DCache) ([1, 2, 1, 3])).2) == 1) ?_ ?_ ?_
  · intro hb10 hk
    simp only [beq_iff_eq] at hb10
    refine o_unguard 13 rfl rfl ?_
    refine o_pure (p_move (v := .int .i64 ((Lru.run (⟨2, []⟩ : DCache) ([1, 2, 1, 3])).2)) rfl) rfl rfl rfl ?_
    refine o_unguard 13 rfl rfl ?_
    refine o_pure (p_eq (p := ((Lru.run (⟨2, []⟩ : DCache) ([1, 2, 1, 3])).2)) (q := 1) rfl rfl) rfl rfl rfl ?_
    refine o_pure (p_pick_true (u := .bool (((Lru.run (⟨2, []⟩ : DCache) ([1, 2, 1, 3])).2) == 1)) rfl rfl) rfl rfl rfl ?_
    exact o_sub (Sub.cons rfl (Sub.skip rfl (Sub.skip rfl (Sub.skip rfl (Sub.skip rfl (Sub.refl _)))))) hk
  · intro hb10 hk
    refine o_guard_no rfl 13 rfl rfl rfl rfl rfl ?_
    refine o_guard_no rfl 13 rfl rfl rfl rfl rfl ?_
    refine o_pure (p_pick_false (v := .bool false) rfl rfl) rfl rfl rfl ?_
    exact o_sub (Sub.cons rfl (Sub.skip rfl (Sub.skip rfl (Sub.skip rfl (Sub.skip rfl (Sub.refl _)))))) hk
  refine o_pure (p_move (v := .bool (((Lru.runErr (⟨2, []⟩ : DCache) ([1, 2, 1, 3])) == 0) && (((Lru.run (⟨2, []⟩ : DCache) ([1, 2, 1, 3])).2) == 1))) rfl) rfl rfl rfl ?_
  refine o_and (p := 22) 5 (Ref.sameInts (((Lru.run (⟨2, []⟩ : DCache) ([1, 2, 1, 3])).1).keys) ([3, 1])) ?_ ?_ ?_
  · intro hb11 hk
    simp only [Bool.and_eq_true, beq_iff_eq] at hb11
    refine o_unguard 17 rfl rfl ?_
    refine o_pure (p_fieldAddr (B := B9) (j := 0) (j' := 1) rfl fo54_1 rfl) rfl rfl rfl ?_
    refine o_unguard 17 rfl rfl ?_
    refine o_pure (p_load (i := 0) (v := .slice a6 (((Lru.run (⟨2, []⟩ : DCache) ([1, 2, 1, 3])).1).keys).length c7) rfl rfl sh30 rfl) rfl rfl rfl ?_
    refine o_unguard 17 rfl rfl ?_
    refine o_buildSlice (m := 2) (T := tInt) (L := [3, 1]) (vs := [.int .i64 3, .int .i64 1]) rfl rfl rfl rfl Try.underlying30 sz3 (by decide) ze3 rfl (by decide) rfl (fun S12 a13 => ?_)
    refine o_unguard 17 rfl rfl ?_
    refine o_call0 (v := .bool (Ref.sameInts (((Lru.run (⟨2, []⟩ : DCache) ([1, 2, 1, 3])).1).keys) ([3, 1]))) rfl (tsame_ok (((Lru.run (⟨2, []⟩ : DCache) ([1, 2, 1, 3])).1).keys) a6 c7 ([3, 1]) a13 ([3, 1].length)) hf72 (fun w hw => ⟨(rd_own (i := 2) rfl) w hw, (rd_own (i := 0) rfl) w hw⟩) rfl ?_
    refine o_pure (p_pick_true (u := .bool (Ref.sameInts (((Lru.run (⟨2, []⟩ : DCache) ([1, 2, 1, 3])).1).keys) ([3, 1]))) rfl rfl) rfl rfl rfl ?_
    exact o_sub (Sub.cons rfl (Sub.skip rfl (Sub.skip rfl (Sub.skip rfl (Sub.skip rfl (Sub.skip rfl (Sub.skip rfl (Sub.refl _)))))))) (o_drop (List.Sublist.cons _ (List.Sublist.cons_cons _ (List.Sublist.cons_cons _ (List.Sublist.cons_cons _ (List.Sublist.cons_cons _ (List.Sublist.slnil)))))) hk)
  · intro hb11 hk
    refine o_guard_no rfl 17 rfl rfl rfl rfl rfl ?_
    refine o_guard_no rfl 17 rfl rfl rfl rfl rfl ?_
    refine o_guard_no rfl 17 rfl rfl rfl rfl rfl ?_
    refine o_guard_no rfl 17 rfl rfl rfl rfl rfl ?_
    refine o_pure (p_pick_false (v := .bool false) rfl rfl) rfl rfl rfl ?_
    exact o_sub (Sub.cons rfl (Sub.skip rfl (Sub.skip rfl (Sub.skip rfl (Sub.skip rfl (Sub.skip rfl (Sub.skip rfl (Sub.refl _)))))))) hk
  refine o_pure (p_assign (v := .bool ((((Lru.runErr (⟨2, []⟩ : DCache) ([1, 2, 1, 3])) == 0) && (((Lru.run (⟨2, []⟩ : DCache) ([1, 2, 1, 3])).2) == 1)) && (Ref.sameInts (((Lru.run (⟨2, []⟩ : DCache) ([1, 2, 1, 3])).1).keys) ([3, 1])))) rfl) rfl rfl rfl ?_
  refine o_nil ?_
  refine q_then ?_
  refine c_ret ?_
  have hr0 : (((((Lru.runErr (⟨2, []⟩ : DCache) ([1, 2, 1, 3])) == 0) && (((Lru.run (⟨2, []⟩ : DCache) ([1, 2, 1, 3])).2) == 1)) && (Ref.sameInts (((Lru.run (⟨2, []⟩ : DCache) ([1, 2, 1, 3])).1).keys) ([3, 1]))) : Bool) = true := by
    first | rfl | decide +kernel
  refine q_end0 (v := .bool ((((Lru.runErr (⟨2, []⟩ : DCache) ([1, 2, 1, 3])) == 0) && (((Lru.run (⟨2, []⟩ : DCache) ([1, 2, 1, 3])).2) == 1)) && (Ref.sameInts (((Lru.run (⟨2, []⟩ : DCache) ([1, 2, 1, 3])).1).keys) ([3, 1])))) (rt1 rfl (r_tmp rfl)) (i := 3) rfl ?_
  exact (by have hcc := congrArg (fun (y0 : Bool) => (.bool y0 : Value)) hr0; exact hcc)
end Go.Proofs.Ytkndekkacimekaa
