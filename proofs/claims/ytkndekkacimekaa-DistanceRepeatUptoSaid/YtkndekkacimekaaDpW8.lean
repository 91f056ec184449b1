/- The walks, printed by a program from the translation and a specification. -/
import Derived.Test.YtkndekkacimekaaDpF
import Derived.Test.YtkndekkacimekaaDpLaw3
import Derived.Test.YtkndekkacimekaaDpW6
import Derived.Test.YtkndekkacimekaaDpW2
namespace Go.Proofs.Ytkndekkacimekaa
open Go.Sx Go.RowKit
set_option maxHeartbeats 8000000 in
set_option maxRecDepth 100000 in
theorem deepBegun_ok  : Fn0 Try.prog 29 [] (fun _ => True) (.bool true) := by
  refine fn0 (nt := 81) (F0 := []) Try.func29 rfl Try.ntmps29 rfl rfl (fun w0 hpre => ?_)
  have hh40 : (Deep.hitsR [1, 2, 1, 1, 3, 2]).length = 40 := by decide +kernel
  refine c_seq ?_
  refine c_region ?_
  refine o_pure (p_assign (v := .bool false) rfl) rfl rfl rfl ?_
  refine o_nil ?_
  refine q_then ?_
  refine c_seq ?_
  refine c_region ?_
  refine o_buildSlice (m := 6) (T := tInt) (L := [1, 2, 1, 1, 3, 2]) (vs := [.int .i64 1, .int .i64 2, .int .i64 1, .int .i64 1, .int .i64 3, .int .i64 2]) rfl rfl rfl rfl Try.underlying30 sz3 (by decide) ze3 rfl (by decide) rfl (fun S1 a2 => ?_)
  refine o_callM rfl (distances_ok ([1, 2, 1, 1, 3, 2]) a2 ([1, 2, 1, 1, 3, 2].length)) hf28 (fun w hw => (rd_own (i := 0) rfl) w hw) rfl (fun _ _ _ _ ha hA => SlO.agree ha hA) ?_
  rintro ⟨a6, c7⟩ S4
  refine o_know (fun w hw => own_len (i := 0) (T := tInt) hw rfl) (fun hlr8 => ?_)
  refine o_pure (p_move (v := .tuple #[.slice a6 (Deep.dist ([1, 2, 1, 1, 3, 2])).length c7, .int .i64 (Lru.trace ([1, 2, 1, 1, 3, 2]))]) rfl) rfl rfl rfl ?_
  refine o_pure (p_extract (vs := [.slice a6 (Deep.dist ([1, 2, 1, 1, 3, 2])).length c7, .int .i64 (Lru.trace ([1, 2, 1, 1, 3, 2]))]) (v := .slice a6 (Deep.dist ([1, 2, 1, 1, 3, 2])).length c7) rfl rfl) rfl rfl rfl ?_
  refine o_pure (p_extract (vs := [.slice a6 (Deep.dist ([1, 2, 1, 1, 3, 2])).length c7, .int .i64 (Lru.trace ([1, 2, 1, 1, 3, 2]))]) (v := .int .i64 (Lru.trace ([1, 2, 1, 1, 3, 2]))) rfl rfl) rfl rfl rfl ?_
  refine o_pure (p_assign (v := .slice a6 (Deep.dist ([1, 2, 1, 1, 3, 2])).length c7) rfl) rfl rfl rfl ?_
  refine o_pure (p_assign (v := .int .i64 (Lru.trace ([1, 2, 1, 1, 3, 2]))) rfl) rfl rfl rfl ?_
  refine o_nil ?_
  refine q_then ?_
  refine c_seq ?_
  refine c_region ?_
  refine o_buildSlice (m := 6) (T := tInt) (L := [1, 2, 1, 1, 3, 2]) (vs := [.int .i64 1, .int .i64 2, .int .i64 1, .int .i64 1, .int .i64 3, .int .i64 2]) rfl rfl rfl rfl Try.underlying30 sz3 (by decide) ze3 rfl (by decide) rfl (fun S9 a10 => ?_)
  refine o_callM rfl (dHits_ok ([1, 2, 1, 1, 3, 2]) a10 ([1, 2, 1, 1, 3, 2].length)) hf31 (fun w hw => (rd_own (i := 0) rfl) w hw) rfl (fun _ _ _ _ ha hA => SlO.agree ha hA) ?_
  rintro ⟨a14, c15⟩ S12
  refine o_know (fun w hw => own_len (i := 0) (T := tInt) hw rfl) (fun hlr16 => ?_)
  refine o_pure (p_move (v := .tuple #[.slice a14 (Deep.hitsR ([1, 2, 1, 1, 3, 2])).length c15, .int .i64 (Lru.trace ([1, 2, 1, 1, 3, 2]))]) rfl) rfl rfl rfl ?_
  refine o_pure (p_extract (vs := [.slice a14 (Deep.hitsR ([1, 2, 1, 1, 3, 2])).length c15, .int .i64 (Lru.trace ([1, 2, 1, 1, 3, 2]))]) (v := .slice a14 (Deep.hitsR ([1, 2, 1, 1, 3, 2])).length c15) rfl rfl) rfl rfl rfl ?_
  refine o_pure (p_extract (vs := [.slice a14 (Deep.hitsR ([1, 2, 1, 1, 3, 2])).length c15, .int .i64 (Lru.trace ([1, 2, 1, 1, 3, 2]))]) (v := .int .i64 (Lru.trace ([1, 2, 1, 1, 3, 2]))) rfl rfl) rfl rfl rfl ?_
  refine o_pure (p_assign (v := .slice a14 (Deep.hitsR ([1, 2, 1, 1, 3, 2])).length c15) rfl) rfl rfl rfl ?_
  refine o_pure (p_assign (v := .int .i64 (Lru.trace ([1, 2, 1, 1, 3, 2]))) rfl) rfl rfl rfl ?_
  refine o_nil ?_
  refine q_then ?_
  refine c_seq ?_
  refine c_region ?_
  refine o_buildSlice (m := 6) (T := tInt) (L := [1, 2, 1, 1, 3, 2]) (vs := [.int .i64 1, .int .i64 2, .int .i64 1, .int .i64 1, .int .i64 3, .int .i64 2]) rfl rfl rfl rfl Try.underlying30 sz3 (by decide) ze3 rfl (by decide) rfl (fun S17 a18 => ?_)
  refine o_call0 (v := .tuple #[.int .i64 (Deep.room ([1, 2, 1, 1, 3, 2]) (50 : Int)), .int .i64 (Deep.roomErr ([1, 2, 1, 1, 3, 2]) (50 : Int))]) rfl (dRoom_ok ([1, 2, 1, 1, 3, 2]) a18 ([1, 2, 1, 1, 3, 2].length) (50 : Int)) hf59 (fun w hw => (rd_own (i := 0) rfl) w hw) rfl ?_
  refine o_pure (p_move (v := .tuple #[.int .i64 (Deep.room ([1, 2, 1, 1, 3, 2]) (50 : Int)), .int .i64 (Deep.roomErr ([1, 2, 1, 1, 3, 2]) (50 : Int))]) rfl) rfl rfl rfl ?_
  refine o_pure (p_extract (vs := [.int .i64 (Deep.room ([1, 2, 1, 1, 3, 2]) (50 : Int)), .int .i64 (Deep.roomErr ([1, 2, 1, 1, 3, 2]) (50 : Int))]) (v := .int .i64 (Deep.room ([1, 2, 1, 1, 3, 2]) (50 : Int))) rfl rfl) rfl rfl rfl ?_
  refine o_pure (p_extract (vs := [.int .i64 (Deep.room ([1, 2, 1, 1, 3, 2]) (50 : Int)), .int .i64 (Deep.roomErr ([1, 2, 1, 1, 3, 2]) (50 : Int))]) (v := .int .i64 (Deep.roomErr ([1, 2, 1, 1, 3, 2]) (50 : Int))) rfl rfl) rfl rfl rfl ?_
  refine o_pure (p_assign (v := .int .i64 (Deep.room ([1, 2, 1, 1, 3, 2]) (50 : Int))) rfl) rfl rfl rfl ?_
  refine o_pure (p_assign (v := .int .i64 (Deep.roomErr ([1, 2, 1, 1, 3, 2]) (50 : Int))) rfl) rfl rfl rfl ?_
  refine o_nil ?_
  refine q_then ?_
  refine c_seq ?_
  refine c_region ?_
  refine o_buildSlice (m := 1) (T := tInt) (L := [1]) (vs := [.int .i64 1]) rfl rfl rfl rfl Try.underlying30 sz3 (by decide) ze3 rfl (by decide) rfl (fun S20 a21 => ?_)
  refine o_call0 (v := .tuple #[.int .i64 (Deep.room ([1]) (1 : Int)), .int .i64 (Deep.roomErr ([1]) (1 : Int))]) rfl (dRoom_ok ([1]) a21 ([1].length) (1 : Int)) hf59 (fun w hw => (rd_own (i := 0) rfl) w hw) rfl ?_
  refine o_pure (p_move (v := .tuple #[.int .i64 (Deep.room ([1]) (1 : Int)), .int .i64 (Deep.roomErr ([1]) (1 : Int))]) rfl) rfl rfl rfl ?_
  refine o_pure (p_extract (vs := [.int .i64 (Deep.room ([1]) (1 : Int)), .int .i64 (Deep.roomErr ([1]) (1 : Int))]) (v := .int .i64 (Deep.room ([1]) (1 : Int))) rfl rfl) rfl rfl rfl ?_
  refine o_pure (p_extract (vs := [.int .i64 (Deep.room ([1]) (1 : Int)), .int .i64 (Deep.roomErr ([1]) (1 : Int))]) (v := .int .i64 (Deep.roomErr ([1]) (1 : Int))) rfl rfl) rfl rfl rfl ?_
  refine o_pure (p_assign (v := .int .i64 (Deep.room ([1]) (1 : Int))) rfl) rfl rfl rfl ?_
  refine o_pure (p_assign (v := .int .i64 (Deep.roomErr ([1]) (1 : Int))) rfl) rfl rfl rfl ?_
  refine o_nil ?_
  refine q_then ?_
  refine c_seq ?_
  refine c_region ?_
  refine o_pure (p_move (v := .slice a6 (Deep.dist ([1, 2, 1, 1, 3, 2])).length c7) rfl) rfl rfl rfl ?_
  refine o_buildSlice (m := 6) (T := tInt) (L := [0, 0, 2, 1, 0, 3]) (vs := [.int .i64 0, .int .i64 0, .int .i64 2, .int .i64 1, .int .i64 0, .int .i64 3]) rfl rfl rfl rfl Try.underlying30 sz3 (by decide) ze3 rfl (by decide) rfl (fun S23 a24 => ?_)
  refine o_call0 (v := .bool (Ref.sameInts (Deep.dist ([1, 2, 1, 1, 3, 2])) ([0, 0, 2, 1, 0, 3]))) rfl (sameInts_ok (Deep.dist ([1, 2, 1, 1, 3, 2])) a6 c7 ([0, 0, 2, 1, 0, 3]) a24 ([0, 0, 2, 1, 0, 3].length)) hf27 (fun w hw => ⟨(rd_own (i := 5) rfl) w hw, (rd_own (i := 0) rfl) w hw⟩) rfl ?_
  refine o_pure (p_move (v := .bool (Ref.sameInts (Deep.dist ([1, 2, 1, 1, 3, 2])) ([0, 0, 2, 1, 0, 3]))) rfl) rfl rfl rfl ?_
  refine o_and (p := 35) 3 ((Lru.trace ([1, 2, 1, 1, 3, 2])) == 0) ?_ ?_ ?_
  · intro hb26 hk
    skip
    refine o_unguard 32 rfl rfl ?_
    refine o_pure (p_move (v := .int .i64 (Lru.trace ([1, 2, 1, 1, 3, 2]))) rfl) rfl rfl rfl ?_
    refine o_unguard 32 rfl rfl ?_
    refine o_pure (p_eq (p := (Lru.trace ([1, 2, 1, 1, 3, 2]))) (q := 0) rfl rfl) rfl rfl rfl ?_
    refine o_pure (p_pick_true (u := .bool ((Lru.trace ([1, 2, 1, 1, 3, 2])) == 0)) rfl rfl) rfl rfl rfl ?_
    exact o_sub (Sub.cons rfl (Sub.skip rfl (Sub.skip rfl (Sub.skip rfl (Sub.skip rfl (Sub.refl _)))))) hk
  · intro hb26 hk
    refine o_guard_no rfl 32 rfl rfl rfl rfl rfl ?_
    refine o_guard_no rfl 32 rfl rfl rfl rfl rfl ?_
    refine o_pure (p_pick_false (v := .bool false) rfl rfl) rfl rfl rfl ?_
    exact o_sub (Sub.cons rfl (Sub.skip rfl (Sub.skip rfl (Sub.skip rfl (Sub.skip rfl (Sub.refl _)))))) hk
  refine o_pure (p_move (v := .bool ((Ref.sameInts (Deep.dist ([1, 2, 1, 1, 3, 2])) ([0, 0, 2, 1, 0, 3])) && ((Lru.trace ([1, 2, 1, 1, 3, 2])) == 0))) rfl) rfl rfl rfl ?_
  refine o_and (p := 40) 4 (((Deep.hitsR ([1, 2, 1, 1, 3, 2])).length : Int) == 40) ?_ ?_ ?_
  · intro hb27 hk
    simp only [Bool.and_eq_true, beq_iff_eq] at hb27
    refine o_unguard 36 rfl rfl ?_
    refine o_pure (p_move (v := .slice a14 (Deep.hitsR ([1, 2, 1, 1, 3, 2])).length c15) rfl) rfl rfl rfl ?_
    refine o_unguard 36 rfl rfl ?_
    refine o_pure (p_len_slice (len := (Deep.hitsR ([1, 2, 1, 1, 3, 2])).length) rfl rfl Try.underlying30) rfl rfl rfl ?_
    refine o_unguard 36 rfl rfl ?_
    refine o_pure (p_eq (p := ((Deep.hitsR ([1, 2, 1, 1, 3, 2])).length : Int)) (q := 40) rfl rfl) rfl rfl rfl ?_
    refine o_pure (p_pick_true (u := .bool (((Deep.hitsR ([1, 2, 1, 1, 3, 2])).length : Int) == 40)) rfl rfl) rfl rfl rfl ?_
    exact o_sub (Sub.cons rfl (Sub.skip rfl (Sub.skip rfl (Sub.skip rfl (Sub.skip rfl (Sub.skip rfl (Sub.refl _))))))) hk
  · intro hb27 hk
    refine o_guard_no rfl 36 rfl rfl rfl rfl rfl ?_
    refine o_guard_no rfl 36 rfl rfl rfl rfl rfl ?_
    refine o_guard_no rfl 36 rfl rfl rfl rfl rfl ?_
    refine o_pure (p_pick_false (v := .bool false) rfl rfl) rfl rfl rfl ?_
    exact o_sub (Sub.cons rfl (Sub.skip rfl (Sub.skip rfl (Sub.skip rfl (Sub.skip rfl (Sub.skip rfl (Sub.refl _))))))) hk
  refine o_pure (p_move (v := .bool (((Ref.sameInts (Deep.dist ([1, 2, 1, 1, 3, 2])) ([0, 0, 2, 1, 0, 3])) && ((Lru.trace ([1, 2, 1, 1, 3, 2])) == 0)) && (((Deep.hitsR ([1, 2, 1, 1, 3, 2])).length : Int) == 40))) rfl) rfl rfl rfl ?_
  refine o_and (p := 46) 5 ((Deep.hitsR ([1, 2, 1, 1, 3, 2]))[0] == 1) ?_ ?_ ?_
  · intro hb28 hk
    simp only [Bool.and_eq_true, beq_iff_eq] at hb28
    refine o_unguard 41 rfl rfl ?_
    refine o_pure (p_move (v := .slice a14 (Deep.hitsR ([1, 2, 1, 1, 3, 2])).length c15) rfl) rfl rfl rfl ?_
    refine o_unguard 41 rfl rfl ?_
    refine o_pure (p_indexAddr (L := (Deep.hitsR ([1, 2, 1, 1, 3, 2]))) (T := tInt) (i := 0) rfl rfl (rd_own (i := 3) rfl) Try.underlying30 sz3 (by first | omega | decide +kernel) (by first | omega | decide +kernel)) rfl rfl rfl ?_
    refine o_unguard 41 rfl rfl ?_
    refine o_pure (p_loadE1 (i := 0) (T := tInt) (L := (Deep.hitsR ([1, 2, 1, 1, 3, 2]))) (v := .int .i64 ((Deep.hitsR ([1, 2, 1, 1, 3, 2]))[0])) rfl (rd_own (i := 3) rfl) (by first | assumption | omega | decide +kernel) sh3 rfl) rfl rfl rfl ?_
    refine o_unguard 41 rfl rfl ?_
    refine o_pure (p_eq (p := (Deep.hitsR ([1, 2, 1, 1, 3, 2]))[0]) (q := 1) rfl rfl) rfl rfl rfl ?_
    refine o_pure (p_pick_true (u := .bool ((Deep.hitsR ([1, 2, 1, 1, 3, 2]))[0] == 1)) rfl rfl) rfl rfl rfl ?_
    exact o_sub (Sub.cons rfl (Sub.skip rfl (Sub.skip rfl (Sub.skip rfl (Sub.skip rfl (Sub.skip rfl (Sub.skip rfl (Sub.refl _)))))))) hk
  · intro hb28 hk
    refine o_guard_no rfl 41 rfl rfl rfl rfl rfl ?_
    refine o_guard_no rfl 41 rfl rfl rfl rfl rfl ?_
    refine o_guard_no rfl 41 rfl rfl rfl rfl rfl ?_
    refine o_guard_no rfl 41 rfl rfl rfl rfl rfl ?_
    refine o_pure (p_pick_false (v := .bool false) rfl rfl) rfl rfl rfl ?_
    exact o_sub (Sub.cons rfl (Sub.skip rfl (Sub.skip rfl (Sub.skip rfl (Sub.skip rfl (Sub.skip rfl (Sub.skip rfl (Sub.refl _)))))))) hk
  refine o_pure (p_move (v := .bool ((((Ref.sameInts (Deep.dist ([1, 2, 1, 1, 3, 2])) ([0, 0, 2, 1, 0, 3])) && ((Lru.trace ([1, 2, 1, 1, 3, 2])) == 0)) && (((Deep.hitsR ([1, 2, 1, 1, 3, 2])).length : Int) == 40)) && ((Deep.hitsR ([1, 2, 1, 1, 3, 2]))[0] == 1))) rfl) rfl rfl rfl ?_
  refine o_and (p := 52) 5 ((Deep.hitsR ([1, 2, 1, 1, 3, 2]))[1] == 2) ?_ ?_ ?_
  · intro hb29 hk
    simp only [Bool.and_eq_true, beq_iff_eq] at hb29
    refine o_unguard 47 rfl rfl ?_
    refine o_pure (p_move (v := .slice a14 (Deep.hitsR ([1, 2, 1, 1, 3, 2])).length c15) rfl) rfl rfl rfl ?_
    refine o_unguard 47 rfl rfl ?_
    refine o_pure (p_indexAddr (L := (Deep.hitsR ([1, 2, 1, 1, 3, 2]))) (T := tInt) (i := 1) rfl rfl (rd_own (i := 3) rfl) Try.underlying30 sz3 (by first | omega | decide +kernel) (by first | omega | decide +kernel)) rfl rfl rfl ?_
    refine o_unguard 47 rfl rfl ?_
    refine o_pure (p_loadE1 (i := 1) (T := tInt) (L := (Deep.hitsR ([1, 2, 1, 1, 3, 2]))) (v := .int .i64 ((Deep.hitsR ([1, 2, 1, 1, 3, 2]))[1])) rfl (rd_own (i := 3) rfl) (by first | assumption | omega | decide +kernel) sh3 rfl) rfl rfl rfl ?_
    refine o_unguard 47 rfl rfl ?_
    refine o_pure (p_eq (p := (Deep.hitsR ([1, 2, 1, 1, 3, 2]))[1]) (q := 2) rfl rfl) rfl rfl rfl ?_
    refine o_pure (p_pick_true (u := .bool ((Deep.hitsR ([1, 2, 1, 1, 3, 2]))[1] == 2)) rfl rfl) rfl rfl rfl ?_
    exact o_sub (Sub.cons rfl (Sub.skip rfl (Sub.skip rfl (Sub.skip rfl (Sub.skip rfl (Sub.skip rfl (Sub.skip rfl (Sub.refl _)))))))) hk
  · intro hb29 hk
    refine o_guard_no rfl 47 rfl rfl rfl rfl rfl ?_
    refine o_guard_no rfl 47 rfl rfl rfl rfl rfl ?_
    refine o_guard_no rfl 47 rfl rfl rfl rfl rfl ?_
    refine o_guard_no rfl 47 rfl rfl rfl rfl rfl ?_
    refine o_pure (p_pick_false (v := .bool false) rfl rfl) rfl rfl rfl ?_
    exact o_sub (Sub.cons rfl (Sub.skip rfl (Sub.skip rfl (Sub.skip rfl (Sub.skip rfl (Sub.skip rfl (Sub.skip rfl (Sub.refl _)))))))) hk
  refine o_pure (p_move (v := .bool (((((Ref.sameInts (Deep.dist ([1, 2, 1, 1, 3, 2])) ([0, 0, 2, 1, 0, 3])) && ((Lru.trace ([1, 2, 1, 1, 3, 2])) == 0)) && (((Deep.hitsR ([1, 2, 1, 1, 3, 2])).length : Int) == 40)) && ((Deep.hitsR ([1, 2, 1, 1, 3, 2]))[0] == 1)) && ((Deep.hitsR ([1, 2, 1, 1, 3, 2]))[1] == 2))) rfl) rfl rfl rfl ?_
  refine o_and (p := 58) 5 ((Deep.hitsR ([1, 2, 1, 1, 3, 2]))[2] == 3) ?_ ?_ ?_
  · intro hb30 hk
    simp only [Bool.and_eq_true, beq_iff_eq] at hb30
    refine o_unguard 53 rfl rfl ?_
    refine o_pure (p_move (v := .slice a14 (Deep.hitsR ([1, 2, 1, 1, 3, 2])).length c15) rfl) rfl rfl rfl ?_
    refine o_unguard 53 rfl rfl ?_
    refine o_pure (p_indexAddr (L := (Deep.hitsR ([1, 2, 1, 1, 3, 2]))) (T := tInt) (i := 2) rfl rfl (rd_own (i := 3) rfl) Try.underlying30 sz3 (by first | omega | decide +kernel) (by first | omega | decide +kernel)) rfl rfl rfl ?_
    refine o_unguard 53 rfl rfl ?_
    refine o_pure (p_loadE1 (i := 2) (T := tInt) (L := (Deep.hitsR ([1, 2, 1, 1, 3, 2]))) (v := .int .i64 ((Deep.hitsR ([1, 2, 1, 1, 3, 2]))[2])) rfl (rd_own (i := 3) rfl) (by first | assumption | omega | decide +kernel) sh3 rfl) rfl rfl rfl ?_
    refine o_unguard 53 rfl rfl ?_
    refine o_pure (p_eq (p := (Deep.hitsR ([1, 2, 1, 1, 3, 2]))[2]) (q := 3) rfl rfl) rfl rfl rfl ?_
    refine o_pure (p_pick_true (u := .bool ((Deep.hitsR ([1, 2, 1, 1, 3, 2]))[2] == 3)) rfl rfl) rfl rfl rfl ?_
    exact o_sub (Sub.cons rfl (Sub.skip rfl (Sub.skip rfl (Sub.skip rfl (Sub.skip rfl (Sub.skip rfl (Sub.skip rfl (Sub.refl _)))))))) hk
  · intro hb30 hk
    refine o_guard_no rfl 53 rfl rfl rfl rfl rfl ?_
    refine o_guard_no rfl 53 rfl rfl rfl rfl rfl ?_
    refine o_guard_no rfl 53 rfl rfl rfl rfl rfl ?_
    refine o_guard_no rfl 53 rfl rfl rfl rfl rfl ?_
    refine o_pure (p_pick_false (v := .bool false) rfl rfl) rfl rfl rfl ?_
    exact o_sub (Sub.cons rfl (Sub.skip rfl (Sub.skip rfl (Sub.skip rfl (Sub.skip rfl (Sub.skip rfl (Sub.skip rfl (Sub.refl _)))))))) hk
  refine o_pure (p_move (v := .bool ((((((Ref.sameInts (Deep.dist ([1, 2, 1, 1, 3, 2])) ([0, 0, 2, 1, 0, 3])) && ((Lru.trace ([1, 2, 1, 1, 3, 2])) == 0)) && (((Deep.hitsR ([1, 2, 1, 1, 3, 2])).length : Int) == 40)) && ((Deep.hitsR ([1, 2, 1, 1, 3, 2]))[0] == 1)) && ((Deep.hitsR ([1, 2, 1, 1, 3, 2]))[1] == 2)) && ((Deep.hitsR ([1, 2, 1, 1, 3, 2]))[2] == 3))) rfl) rfl rfl rfl ?_
  refine o_and (p := 64) 5 ((Deep.hitsR ([1, 2, 1, 1, 3, 2]))[39] == 3) ?_ ?_ ?_
  · intro hb31 hk
    simp only [Bool.and_eq_true, beq_iff_eq] at hb31
    refine o_unguard 59 rfl rfl ?_
    refine o_pure (p_move (v := .slice a14 (Deep.hitsR ([1, 2, 1, 1, 3, 2])).length c15) rfl) rfl rfl rfl ?_
    refine o_unguard 59 rfl rfl ?_
    refine o_pure (p_indexAddr (L := (Deep.hitsR ([1, 2, 1, 1, 3, 2]))) (T := tInt) (i := 39) rfl rfl (rd_own (i := 3) rfl) Try.underlying30 sz3 (by first | omega | decide +kernel) (by first | omega | decide +kernel)) rfl rfl rfl ?_
    refine o_unguard 59 rfl rfl ?_
    refine o_pure (p_loadE1 (i := 39) (T := tInt) (L := (Deep.hitsR ([1, 2, 1, 1, 3, 2]))) (v := .int .i64 ((Deep.hitsR ([1, 2, 1, 1, 3, 2]))[39])) rfl (rd_own (i := 3) rfl) (by first | assumption | omega | decide +kernel) sh3 rfl) rfl rfl rfl ?_
    refine o_unguard 59 rfl rfl ?_
    refine o_pure (p_eq (p := (Deep.hitsR ([1, 2, 1, 1, 3, 2]))[39]) (q := 3) rfl rfl) rfl rfl rfl ?_
    refine o_pure (p_pick_true (u := .bool ((Deep.hitsR ([1, 2, 1, 1, 3, 2]))[39] == 3)) rfl rfl) rfl rfl rfl ?_
    exact o_sub (Sub.cons rfl (Sub.skip rfl (Sub.skip rfl (Sub.skip rfl (Sub.skip rfl (Sub.skip rfl (Sub.skip rfl (Sub.refl _)))))))) hk
  · intro hb31 hk
    refine o_guard_no rfl 59 rfl rfl rfl rfl rfl ?_
    refine o_guard_no rfl 59 rfl rfl rfl rfl rfl ?_
    refine o_guard_no rfl 59 rfl rfl rfl rfl rfl ?_
    refine o_guard_no rfl 59 rfl rfl rfl rfl rfl ?_
    refine o_pure (p_pick_false (v := .bool false) rfl rfl) rfl rfl rfl ?_
    exact o_sub (Sub.cons rfl (Sub.skip rfl (Sub.skip rfl (Sub.skip rfl (Sub.skip rfl (Sub.skip rfl (Sub.skip rfl (Sub.refl _)))))))) hk
  refine o_pure (p_move (v := .bool (((((((Ref.sameInts (Deep.dist ([1, 2, 1, 1, 3, 2])) ([0, 0, 2, 1, 0, 3])) && ((Lru.trace ([1, 2, 1, 1, 3, 2])) == 0)) && (((Deep.hitsR ([1, 2, 1, 1, 3, 2])).length : Int) == 40)) && ((Deep.hitsR ([1, 2, 1, 1, 3, 2]))[0] == 1)) && ((Deep.hitsR ([1, 2, 1, 1, 3, 2]))[1] == 2)) && ((Deep.hitsR ([1, 2, 1, 1, 3, 2]))[2] == 3)) && ((Deep.hitsR ([1, 2, 1, 1, 3, 2]))[39] == 3))) rfl) rfl rfl rfl ?_
  refine o_and (p := 68) 3 ((Lru.trace ([1, 2, 1, 1, 3, 2])) == 0) ?_ ?_ ?_
  · intro hb32 hk
    simp only [Bool.and_eq_true, beq_iff_eq] at hb32
    refine o_unguard 65 rfl rfl ?_
    refine o_pure (p_move (v := .int .i64 (Lru.trace ([1, 2, 1, 1, 3, 2]))) rfl) rfl rfl rfl ?_
    refine o_unguard 65 rfl rfl ?_
    refine o_pure (p_eq (p := (Lru.trace ([1, 2, 1, 1, 3, 2]))) (q := 0) rfl rfl) rfl rfl rfl ?_
    refine o_pure (p_pick_true (u := .bool ((Lru.trace ([1, 2, 1, 1, 3, 2])) == 0)) rfl rfl) rfl rfl rfl ?_
    exact o_sub (Sub.cons rfl (Sub.skip rfl (Sub.skip rfl (Sub.skip rfl (Sub.skip rfl (Sub.refl _)))))) hk
  · intro hb32 hk
    refine o_guard_no rfl 65 rfl rfl rfl rfl rfl ?_
    refine o_guard_no rfl 65 rfl rfl rfl rfl rfl ?_
    refine o_pure (p_pick_false (v := .bool false) rfl rfl) rfl rfl rfl ?_
    exact o_sub (Sub.cons rfl (Sub.skip rfl (Sub.skip rfl (Sub.skip rfl (Sub.skip rfl (Sub.refl _)))))) hk
  refine o_pure (p_move (v := .bool ((((((((Ref.sameInts (Deep.dist ([1, 2, 1, 1, 3, 2])) ([0, 0, 2, 1, 0, 3])) && ((Lru.trace ([1, 2, 1, 1, 3, 2])) == 0)) && (((Deep.hitsR ([1, 2, 1, 1, 3, 2])).length : Int) == 40)) && ((Deep.hitsR ([1, 2, 1, 1, 3, 2]))[0] == 1)) && ((Deep.hitsR ([1, 2, 1, 1, 3, 2]))[1] == 2)) && ((Deep.hitsR ([1, 2, 1, 1, 3, 2]))[2] == 3)) && ((Deep.hitsR ([1, 2, 1, 1, 3, 2]))[39] == 3)) && ((Lru.trace ([1, 2, 1, 1, 3, 2])) == 0))) rfl) rfl rfl rfl ?_
  refine o_and (p := 72) 3 ((Deep.room ([1, 2, 1, 1, 3, 2]) (50 : Int)) == 3) ?_ ?_ ?_
  · intro hb33 hk
    simp only [Bool.and_eq_true, beq_iff_eq] at hb33
    refine o_unguard 69 rfl rfl ?_
    refine o_pure (p_move (v := .int .i64 (Deep.room ([1, 2, 1, 1, 3, 2]) (50 : Int))) rfl) rfl rfl rfl ?_
    refine o_unguard 69 rfl rfl ?_
    refine o_pure (p_eq (p := (Deep.room ([1, 2, 1, 1, 3, 2]) (50 : Int))) (q := 3) rfl rfl) rfl rfl rfl ?_
    refine o_pure (p_pick_true (u := .bool ((Deep.room ([1, 2, 1, 1, 3, 2]) (50 : Int)) == 3)) rfl rfl) rfl rfl rfl ?_
    exact o_sub (Sub.cons rfl (Sub.skip rfl (Sub.skip rfl (Sub.skip rfl (Sub.skip rfl (Sub.refl _)))))) hk
  · intro hb33 hk
    refine o_guard_no rfl 69 rfl rfl rfl rfl rfl ?_
    refine o_guard_no rfl 69 rfl rfl rfl rfl rfl ?_
    refine o_pure (p_pick_false (v := .bool false) rfl rfl) rfl rfl rfl ?_
    exact o_sub (Sub.cons rfl (Sub.skip rfl (Sub.skip rfl (Sub.skip rfl (Sub.skip rfl (Sub.refl _)))))) hk
  refine o_pure (p_move (v := .bool (((((((((Ref.sameInts (Deep.dist ([1, 2, 1, 1, 3, 2])) ([0, 0, 2, 1, 0, 3])) && ((Lru.trace ([1, 2, 1, 1, 3, 2])) == 0)) && (((Deep.hitsR ([1, 2, 1, 1, 3, 2])).length : Int) == 40)) && ((Deep.hitsR ([1, 2, 1, 1, 3, 2]))[0] == 1)) && ((Deep.hitsR ([1, 2, 1, 1, 3, 2]))[1] == 2)) && ((Deep.hitsR ([1, 2, 1, 1, 3, 2]))[2] == 3)) && ((Deep.hitsR ([1, 2, 1, 1, 3, 2]))[39] == 3)) && ((Lru.trace ([1, 2, 1, 1, 3, 2])) == 0)) && ((Deep.room ([1, 2, 1, 1, 3, 2]) (50 : Int)) == 3))) rfl) rfl rfl rfl ?_
  refine o_and (p := 76) 3 ((Deep.roomErr ([1, 2, 1, 1, 3, 2]) (50 : Int)) == 0) ?_ ?_ ?_
  · intro hb34 hk
    simp only [Bool.and_eq_true, beq_iff_eq] at hb34
    refine o_unguard 73 rfl rfl ?_
    refine o_pure (p_move (v := .int .i64 (Deep.roomErr ([1, 2, 1, 1, 3, 2]) (50 : Int))) rfl) rfl rfl rfl ?_
    refine o_unguard 73 rfl rfl ?_
    refine o_pure (p_eq (p := (Deep.roomErr ([1, 2, 1, 1, 3, 2]) (50 : Int))) (q := 0) rfl rfl) rfl rfl rfl ?_
    refine o_pure (p_pick_true (u := .bool ((Deep.roomErr ([1, 2, 1, 1, 3, 2]) (50 : Int)) == 0)) rfl rfl) rfl rfl rfl ?_
    exact o_sub (Sub.cons rfl (Sub.skip rfl (Sub.skip rfl (Sub.skip rfl (Sub.skip rfl (Sub.refl _)))))) hk
  · intro hb34 hk
    refine o_guard_no rfl 73 rfl rfl rfl rfl rfl ?_
    refine o_guard_no rfl 73 rfl rfl rfl rfl rfl ?_
    refine o_pure (p_pick_false (v := .bool false) rfl rfl) rfl rfl rfl ?_
    exact o_sub (Sub.cons rfl (Sub.skip rfl (Sub.skip rfl (Sub.skip rfl (Sub.skip rfl (Sub.refl _)))))) hk
  refine o_pure (p_move (v := .bool ((((((((((Ref.sameInts (Deep.dist ([1, 2, 1, 1, 3, 2])) ([0, 0, 2, 1, 0, 3])) && ((Lru.trace ([1, 2, 1, 1, 3, 2])) == 0)) && (((Deep.hitsR ([1, 2, 1, 1, 3, 2])).length : Int) == 40)) && ((Deep.hitsR ([1, 2, 1, 1, 3, 2]))[0] == 1)) && ((Deep.hitsR ([1, 2, 1, 1, 3, 2]))[1] == 2)) && ((Deep.hitsR ([1, 2, 1, 1, 3, 2]))[2] == 3)) && ((Deep.hitsR ([1, 2, 1, 1, 3, 2]))[39] == 3)) && ((Lru.trace ([1, 2, 1, 1, 3, 2])) == 0)) && ((Deep.room ([1, 2, 1, 1, 3, 2]) (50 : Int)) == 3)) && ((Deep.roomErr ([1, 2, 1, 1, 3, 2]) (50 : Int)) == 0))) rfl) rfl rfl rfl ?_
  refine o_and (p := 80) 3 ((Deep.roomErr ([1]) (1 : Int)) == 5) ?_ ?_ ?_
  · intro hb35 hk
    simp only [Bool.and_eq_true, beq_iff_eq] at hb35
    refine o_unguard 77 rfl rfl ?_
    refine o_pure (p_move (v := .int .i64 (Deep.roomErr ([1]) (1 : Int))) rfl) rfl rfl rfl ?_
    refine o_unguard 77 rfl rfl ?_
    refine o_pure (p_eq (p := (Deep.roomErr ([1]) (1 : Int))) (q := 5) rfl rfl) rfl rfl rfl ?_
    refine o_pure (p_pick_true (u := .bool ((Deep.roomErr ([1]) (1 : Int)) == 5)) rfl rfl) rfl rfl rfl ?_
    exact o_sub (Sub.cons rfl (Sub.skip rfl (Sub.skip rfl (Sub.skip rfl (Sub.skip rfl (Sub.refl _)))))) hk
  · intro hb35 hk
    refine o_guard_no rfl 77 rfl rfl rfl rfl rfl ?_
    refine o_guard_no rfl 77 rfl rfl rfl rfl rfl ?_
    refine o_pure (p_pick_false (v := .bool false) rfl rfl) rfl rfl rfl ?_
    exact o_sub (Sub.cons rfl (Sub.skip rfl (Sub.skip rfl (Sub.skip rfl (Sub.skip rfl (Sub.refl _)))))) hk
  refine o_pure (p_assign (v := .bool (((((((((((Ref.sameInts (Deep.dist ([1, 2, 1, 1, 3, 2])) ([0, 0, 2, 1, 0, 3])) && ((Lru.trace ([1, 2, 1, 1, 3, 2])) == 0)) && (((Deep.hitsR ([1, 2, 1, 1, 3, 2])).length : Int) == 40)) && ((Deep.hitsR ([1, 2, 1, 1, 3, 2]))[0] == 1)) && ((Deep.hitsR ([1, 2, 1, 1, 3, 2]))[1] == 2)) && ((Deep.hitsR ([1, 2, 1, 1, 3, 2]))[2] == 3)) && ((Deep.hitsR ([1, 2, 1, 1, 3, 2]))[39] == 3)) && ((Lru.trace ([1, 2, 1, 1, 3, 2])) == 0)) && ((Deep.room ([1, 2, 1, 1, 3, 2]) (50 : Int)) == 3)) && ((Deep.roomErr ([1, 2, 1, 1, 3, 2]) (50 : Int)) == 0)) && ((Deep.roomErr ([1]) (1 : Int)) == 5))) rfl) rfl rfl rfl ?_
  refine o_nil ?_
  refine q_then ?_
  refine c_ret ?_
  have hr0 : ((((((((((((Ref.sameInts (Deep.dist ([1, 2, 1, 1, 3, 2])) ([0, 0, 2, 1, 0, 3])) && ((Lru.trace ([1, 2, 1, 1, 3, 2])) == 0)) && (((Deep.hitsR ([1, 2, 1, 1, 3, 2])).length : Int) == 40)) && ((Deep.hitsR ([1, 2, 1, 1, 3, 2]))[0] == 1)) && ((Deep.hitsR ([1, 2, 1, 1, 3, 2]))[1] == 2)) && ((Deep.hitsR ([1, 2, 1, 1, 3, 2]))[2] == 3)) && ((Deep.hitsR ([1, 2, 1, 1, 3, 2]))[39] == 3)) && ((Lru.trace ([1, 2, 1, 1, 3, 2])) == 0)) && ((Deep.room ([1, 2, 1, 1, 3, 2]) (50 : Int)) == 3)) && ((Deep.roomErr ([1, 2, 1, 1, 3, 2]) (50 : Int)) == 0)) && ((Deep.roomErr ([1]) (1 : Int)) == 5)) : Bool) = true := by
    first | rfl | decide +kernel
  refine q_end0 (v := .bool (((((((((((Ref.sameInts (Deep.dist ([1, 2, 1, 1, 3, 2])) ([0, 0, 2, 1, 0, 3])) && ((Lru.trace ([1, 2, 1, 1, 3, 2])) == 0)) && (((Deep.hitsR ([1, 2, 1, 1, 3, 2])).length : Int) == 40)) && ((Deep.hitsR ([1, 2, 1, 1, 3, 2]))[0] == 1)) && ((Deep.hitsR ([1, 2, 1, 1, 3, 2]))[1] == 2)) && ((Deep.hitsR ([1, 2, 1, 1, 3, 2]))[2] == 3)) && ((Deep.hitsR ([1, 2, 1, 1, 3, 2]))[39] == 3)) && ((Lru.trace ([1, 2, 1, 1, 3, 2])) == 0)) && ((Deep.room ([1, 2, 1, 1, 3, 2]) (50 : Int)) == 3)) && ((Deep.roomErr ([1, 2, 1, 1, 3, 2]) (50 : Int)) == 0)) && ((Deep.roomErr ([1]) (1 : Int)) == 5))) (rt1 rfl (r_tmp rfl)) (i := 7) rfl ?_
  exact (by have hcc := congrArg (fun (y0 : Bool) => (.bool y0 : Value)) hr0; exact hcc)
end Go.Proofs.Ytkndekkacimekaa
