/- The walks, printed by a program from the translation and a specification. -/
import Derived.Test.YthecfjipaepcgaaWkF
import Derived.Test.YthecfjipaepcgaaWsLaw5
import Derived.Test.YthecfjipaepcgaaExLaw
import Derived.Test.YthecfjipaepcgaaWkW4
import Derived.Test.YthecfjipaepcgaaWkW5
namespace Go.Proofs.Ythecfjipaepcgaa
open Go.Sx Go.RowKit
set_option maxHeartbeats 8000000 in
set_option maxRecDepth 100000 in
theorem workBegun_ok  : Fn0 Try.prog 48 [] (fun _ => True) (.bool true) := by
  refine fn0 (nt := 75) (F0 := []) Try.func48 rfl Try.ntmps48 rfl rfl (fun w0 hpre => ?_)
  refine c_seq ?_
  refine c_region ?_
  refine o_pure (p_assign (v := .bool false) rfl) rfl rfl rfl ?_
  refine o_nil ?_
  refine q_then ?_
  refine c_seq ?_
  refine c_region ?_
  refine o_buildSlice (m := 7) (T := tInt) (L := [3, 1, 3, 2, 2, 9, 8]) (vs := [.int .i64 3, .int .i64 1, .int .i64 3, .int .i64 2, .int .i64 2, .int .i64 9, .int .i64 8]) rfl rfl rfl rfl Try.underlying45 sz3 (by decide) ze3 rfl (by decide) rfl (fun S1 a2 => ?_)
  refine o_pure (p_assign (v := .slice a2 ([3, 1, 3, 2, 2, 9, 8]).length ([3, 1, 3, 2, 2, 9, 8].length)) rfl) rfl rfl rfl ?_
  refine o_nil ?_
  refine q_then ?_
  refine c_seq ?_
  refine c_region ?_
  refine o_pure (p_move (v := .slice a2 ([3, 1, 3, 2, 2, 9, 8]).length ([3, 1, 3, 2, 2, 9, 8].length)) rfl) rfl rfl rfl ?_
  refine o_callM rfl (wset_ok ([3, 1, 3, 2, 2, 9, 8]) a2 ([3, 1, 3, 2, 2, 9, 8].length) (3 : Int) (3 : Int)) hf40 (fun w hw => (rd_own (i := 0) rfl) w hw) rfl (fun _ _ _ _ ha hA => SlO.agree ha hA) ?_
  rintro ⟨a6, c7⟩ S4
  refine o_know (fun w hw => own_len (i := 0) (T := tInt) hw rfl) (fun hlr8 => ?_)
  refine o_pure (p_move (v := .tuple #[.slice a6 (Ws.setR ([3, 1, 3, 2, 2, 9, 8]) (3 : Int) (3 : Int)).length c7, .int .i64 (Ws.setErr ([3, 1, 3, 2, 2, 9, 8]) (3 : Int) (3 : Int))]) rfl) rfl rfl rfl ?_
  refine o_pure (p_extract (vs := [.slice a6 (Ws.setR ([3, 1, 3, 2, 2, 9, 8]) (3 : Int) (3 : Int)).length c7, .int .i64 (Ws.setErr ([3, 1, 3, 2, 2, 9, 8]) (3 : Int) (3 : Int))]) (v := .slice a6 (Ws.setR ([3, 1, 3, 2, 2, 9, 8]) (3 : Int) (3 : Int)).length c7) rfl rfl) rfl rfl rfl ?_
  refine o_pure (p_extract (vs := [.slice a6 (Ws.setR ([3, 1, 3, 2, 2, 9, 8]) (3 : Int) (3 : Int)).length c7, .int .i64 (Ws.setErr ([3, 1, 3, 2, 2, 9, 8]) (3 : Int) (3 : Int))]) (v := .int .i64 (Ws.setErr ([3, 1, 3, 2, 2, 9, 8]) (3 : Int) (3 : Int))) rfl rfl) rfl rfl rfl ?_
  refine o_pure (p_assign (v := .slice a6 (Ws.setR ([3, 1, 3, 2, 2, 9, 8]) (3 : Int) (3 : Int)).length c7) rfl) rfl rfl rfl ?_
  refine o_pure (p_assign (v := .int .i64 (Ws.setErr ([3, 1, 3, 2, 2, 9, 8]) (3 : Int) (3 : Int))) rfl) rfl rfl rfl ?_
  refine o_nil ?_
  refine q_then ?_
  refine c_seq ?_
  refine c_region ?_
  refine o_pure (p_move (v := .slice a2 ([3, 1, 3, 2, 2, 9, 8]).length ([3, 1, 3, 2, 2, 9, 8].length)) rfl) rfl rfl rfl ?_
  refine o_callM rfl (wsizes_ok ([3, 1, 3, 2, 2, 9, 8]) a2 ([3, 1, 3, 2, 2, 9, 8].length) (2 : Int)) hf41 (fun w hw => (rd_own (i := 1) rfl) w hw) rfl (fun _ _ _ _ ha hA => SlO.agree ha hA) ?_
  rintro ⟨a11, c12⟩ S9
  refine o_know (fun w hw => own_len (i := 0) (T := tInt) hw rfl) (fun hlr13 => ?_)
  refine o_pure (p_move (v := .tuple #[.slice a11 (Ws.sizes ([3, 1, 3, 2, 2, 9, 8]) (2 : Int)).length c12, .int .i64 (Ws.check ([3, 1, 3, 2, 2, 9, 8]) (2 : Int))]) rfl) rfl rfl rfl ?_
  refine o_pure (p_extract (vs := [.slice a11 (Ws.sizes ([3, 1, 3, 2, 2, 9, 8]) (2 : Int)).length c12, .int .i64 (Ws.check ([3, 1, 3, 2, 2, 9, 8]) (2 : Int))]) (v := .slice a11 (Ws.sizes ([3, 1, 3, 2, 2, 9, 8]) (2 : Int)).length c12) rfl rfl) rfl rfl rfl ?_
  refine o_pure (p_extract (vs := [.slice a11 (Ws.sizes ([3, 1, 3, 2, 2, 9, 8]) (2 : Int)).length c12, .int .i64 (Ws.check ([3, 1, 3, 2, 2, 9, 8]) (2 : Int))]) (v := .int .i64 (Ws.check ([3, 1, 3, 2, 2, 9, 8]) (2 : Int))) rfl rfl) rfl rfl rfl ?_
  refine o_pure (p_assign (v := .slice a11 (Ws.sizes ([3, 1, 3, 2, 2, 9, 8]) (2 : Int)).length c12) rfl) rfl rfl rfl ?_
  refine o_pure (p_assign (v := .int .i64 (Ws.check ([3, 1, 3, 2, 2, 9, 8]) (2 : Int))) rfl) rfl rfl rfl ?_
  refine o_nil ?_
  refine q_then ?_
  refine c_seq ?_
  refine c_region ?_
  refine o_pure (p_move (v := .slice a2 ([3, 1, 3, 2, 2, 9, 8]).length ([3, 1, 3, 2, 2, 9, 8].length)) rfl) rfl rfl rfl ?_
  refine o_call0 (v := .tuple #[.int .i64 (Ws.faults ([3, 1, 3, 2, 2, 9, 8]) (2 : Int)), .int .i64 (Ws.check ([3, 1, 3, 2, 2, 9, 8]) (2 : Int))]) rfl (wfaults_ok ([3, 1, 3, 2, 2, 9, 8]) a2 ([3, 1, 3, 2, 2, 9, 8].length) (2 : Int)) hf42 (fun w hw => (rd_own (i := 2) rfl) w hw) rfl ?_
  refine o_pure (p_move (v := .tuple #[.int .i64 (Ws.faults ([3, 1, 3, 2, 2, 9, 8]) (2 : Int)), .int .i64 (Ws.check ([3, 1, 3, 2, 2, 9, 8]) (2 : Int))]) rfl) rfl rfl rfl ?_
  refine o_pure (p_extract (vs := [.int .i64 (Ws.faults ([3, 1, 3, 2, 2, 9, 8]) (2 : Int)), .int .i64 (Ws.check ([3, 1, 3, 2, 2, 9, 8]) (2 : Int))]) (v := .int .i64 (Ws.faults ([3, 1, 3, 2, 2, 9, 8]) (2 : Int))) rfl rfl) rfl rfl rfl ?_
  refine o_pure (p_extract (vs := [.int .i64 (Ws.faults ([3, 1, 3, 2, 2, 9, 8]) (2 : Int)), .int .i64 (Ws.check ([3, 1, 3, 2, 2, 9, 8]) (2 : Int))]) (v := .int .i64 (Ws.check ([3, 1, 3, 2, 2, 9, 8]) (2 : Int))) rfl rfl) rfl rfl rfl ?_
  refine o_pure (p_assign (v := .int .i64 (Ws.faults ([3, 1, 3, 2, 2, 9, 8]) (2 : Int))) rfl) rfl rfl rfl ?_
  refine o_pure (p_assign (v := .int .i64 (Ws.check ([3, 1, 3, 2, 2, 9, 8]) (2 : Int))) rfl) rfl rfl rfl ?_
  refine o_nil ?_
  refine q_then ?_
  refine c_seq ?_
  refine c_region ?_
  refine o_pure (p_move (v := .slice a2 ([3, 1, 3, 2, 2, 9, 8]).length ([3, 1, 3, 2, 2, 9, 8].length)) rfl) rfl rfl rfl ?_
  refine o_callM rfl (wphases_ok ([3, 1, 3, 2, 2, 9, 8]) a2 ([3, 1, 3, 2, 2, 9, 8].length) (2 : Int) (1 : Int)) hf43 (fun w hw => (rd_own (i := 2) rfl) w hw) rfl (fun _ _ _ _ ha hA => SlO.agree ha hA) ?_
  rintro ⟨a16, c17⟩ S14
  refine o_know (fun w hw => own_len (i := 0) (T := tInt) hw rfl) (fun hlr18 => ?_)
  refine o_pure (p_move (v := .tuple #[.slice a16 (Ws.phases ([3, 1, 3, 2, 2, 9, 8]) (2 : Int) (1 : Int)).length c17, .int .i64 (Ws.phErr ([3, 1, 3, 2, 2, 9, 8]) (2 : Int) (1 : Int))]) rfl) rfl rfl rfl ?_
  refine o_pure (p_extract (vs := [.slice a16 (Ws.phases ([3, 1, 3, 2, 2, 9, 8]) (2 : Int) (1 : Int)).length c17, .int .i64 (Ws.phErr ([3, 1, 3, 2, 2, 9, 8]) (2 : Int) (1 : Int))]) (v := .slice a16 (Ws.phases ([3, 1, 3, 2, 2, 9, 8]) (2 : Int) (1 : Int)).length c17) rfl rfl) rfl rfl rfl ?_
  refine o_pure (p_extract (vs := [.slice a16 (Ws.phases ([3, 1, 3, 2, 2, 9, 8]) (2 : Int) (1 : Int)).length c17, .int .i64 (Ws.phErr ([3, 1, 3, 2, 2, 9, 8]) (2 : Int) (1 : Int))]) (v := .int .i64 (Ws.phErr ([3, 1, 3, 2, 2, 9, 8]) (2 : Int) (1 : Int))) rfl rfl) rfl rfl rfl ?_
  refine o_pure (p_assign (v := .slice a16 (Ws.phases ([3, 1, 3, 2, 2, 9, 8]) (2 : Int) (1 : Int)).length c17) rfl) rfl rfl rfl ?_
  refine o_pure (p_assign (v := .int .i64 (Ws.phErr ([3, 1, 3, 2, 2, 9, 8]) (2 : Int) (1 : Int))) rfl) rfl rfl rfl ?_
  refine o_nil ?_
  refine q_then ?_
  refine c_seq ?_
  refine c_region ?_
  refine o_pure (p_move (v := .slice a2 ([3, 1, 3, 2, 2, 9, 8]).length ([3, 1, 3, 2, 2, 9, 8].length)) rfl) rfl rfl rfl ?_
  refine o_callM rfl (wset_ok ([3, 1, 3, 2, 2, 9, 8]) a2 ([3, 1, 3, 2, 2, 9, 8].length) (7 : Int) (1 : Int)) hf40 (fun w hw => (rd_own (i := 3) rfl) w hw) rfl (fun _ _ _ _ ha hA => SlO.agree ha hA) ?_
  rintro ⟨a21, c22⟩ S19
  refine o_know (fun w hw => own_len (i := 0) (T := tInt) hw rfl) (fun hlr23 => ?_)
  refine o_pure (p_move (v := .tuple #[.slice a21 (Ws.setR ([3, 1, 3, 2, 2, 9, 8]) (7 : Int) (1 : Int)).length c22, .int .i64 (Ws.setErr ([3, 1, 3, 2, 2, 9, 8]) (7 : Int) (1 : Int))]) rfl) rfl rfl rfl ?_
  refine o_pure (p_extract (vs := [.slice a21 (Ws.setR ([3, 1, 3, 2, 2, 9, 8]) (7 : Int) (1 : Int)).length c22, .int .i64 (Ws.setErr ([3, 1, 3, 2, 2, 9, 8]) (7 : Int) (1 : Int))]) (v := .slice a21 (Ws.setR ([3, 1, 3, 2, 2, 9, 8]) (7 : Int) (1 : Int)).length c22) rfl rfl) rfl rfl rfl ?_
  refine o_pure (p_extract (vs := [.slice a21 (Ws.setR ([3, 1, 3, 2, 2, 9, 8]) (7 : Int) (1 : Int)).length c22, .int .i64 (Ws.setErr ([3, 1, 3, 2, 2, 9, 8]) (7 : Int) (1 : Int))]) (v := .int .i64 (Ws.setErr ([3, 1, 3, 2, 2, 9, 8]) (7 : Int) (1 : Int))) rfl rfl) rfl rfl rfl ?_
  refine o_pure (p_assign (v := .slice a21 (Ws.setR ([3, 1, 3, 2, 2, 9, 8]) (7 : Int) (1 : Int)).length c22) rfl) rfl rfl rfl ?_
  refine o_pure (p_assign (v := .int .i64 (Ws.setErr ([3, 1, 3, 2, 2, 9, 8]) (7 : Int) (1 : Int))) rfl) rfl rfl rfl ?_
  refine o_nil ?_
  refine q_then ?_
  refine c_seq ?_
  refine c_region ?_
  refine o_pure (p_move (v := .slice a6 (Ws.setR ([3, 1, 3, 2, 2, 9, 8]) (3 : Int) (3 : Int)).length c7) rfl) rfl rfl rfl ?_
  refine o_buildSlice (m := 3) (T := tInt) (L := [1, 2, 3]) (vs := [.int .i64 1, .int .i64 2, .int .i64 3]) rfl rfl rfl rfl Try.underlying45 sz3 (by decide) ze3 rfl (by decide) rfl (fun S24 a25 => ?_)
  refine o_call0 (v := .bool (Ref.sameInts (Ws.setR ([3, 1, 3, 2, 2, 9, 8]) (3 : Int) (3 : Int)) ([1, 2, 3]))) rfl (sameInts_ok (Ws.setR ([3, 1, 3, 2, 2, 9, 8]) (3 : Int) (3 : Int)) a6 c7 ([1, 2, 3]) a25 ([1, 2, 3].length)) hf31 (fun w hw => ⟨(rd_own (i := 4) rfl) w hw, (rd_own (i := 0) rfl) w hw⟩) rfl ?_
  refine o_pure (p_move (v := .bool (Ref.sameInts (Ws.setR ([3, 1, 3, 2, 2, 9, 8]) (3 : Int) (3 : Int)) ([1, 2, 3]))) rfl) rfl rfl rfl ?_
  refine o_and (p := 44) 3 ((Ws.setErr ([3, 1, 3, 2, 2, 9, 8]) (3 : Int) (3 : Int)) == 0) ?_ ?_ ?_
  · intro hb27 hk
    skip
    refine o_unguard 41 rfl rfl ?_
    refine o_pure (p_move (v := .int .i64 (Ws.setErr ([3, 1, 3, 2, 2, 9, 8]) (3 : Int) (3 : Int))) rfl) rfl rfl rfl ?_
    refine o_unguard 41 rfl rfl ?_
    refine o_pure (p_eq (p := (Ws.setErr ([3, 1, 3, 2, 2, 9, 8]) (3 : Int) (3 : Int))) (q := 0) rfl rfl) rfl rfl rfl ?_
    refine o_pure (p_pick_true (u := .bool ((Ws.setErr ([3, 1, 3, 2, 2, 9, 8]) (3 : Int) (3 : Int)) == 0)) rfl rfl) rfl rfl rfl ?_
    exact o_sub (Sub.cons rfl (Sub.skip rfl (Sub.skip rfl (Sub.skip rfl (Sub.skip rfl (Sub.refl _)))))) hk
  · intro hb27 hk
    refine o_guard_no rfl 41 rfl rfl rfl rfl rfl ?_
    refine o_guard_no rfl 41 rfl rfl rfl rfl rfl ?_
    refine o_pure (p_pick_false (v := .bool false) rfl rfl) rfl rfl rfl ?_
    exact o_sub (Sub.cons rfl (Sub.skip rfl (Sub.skip rfl (Sub.skip rfl (Sub.skip rfl (Sub.refl _)))))) hk
  refine o_pure (p_move (v := .bool ((Ref.sameInts (Ws.setR ([3, 1, 3, 2, 2, 9, 8]) (3 : Int) (3 : Int)) ([1, 2, 3])) && ((Ws.setErr ([3, 1, 3, 2, 2, 9, 8]) (3 : Int) (3 : Int)) == 0))) rfl) rfl rfl rfl ?_
  refine o_and (p := 49) 4 (Ref.sameInts (Ws.sizes ([3, 1, 3, 2, 2, 9, 8]) (2 : Int)) ([1, 2, 2, 2, 1, 2, 2])) ?_ ?_ ?_
  · intro hb28 hk
    simp only [Bool.and_eq_true, beq_iff_eq] at hb28
    refine o_unguard 45 rfl rfl ?_
    refine o_pure (p_move (v := .slice a11 (Ws.sizes ([3, 1, 3, 2, 2, 9, 8]) (2 : Int)).length c12) rfl) rfl rfl rfl ?_
    refine o_unguard 45 rfl rfl ?_
    refine o_buildSlice (m := 7) (T := tInt) (L := [1, 2, 2, 2, 1, 2, 2]) (vs := [.int .i64 1, .int .i64 2, .int .i64 2, .int .i64 2, .int .i64 1, .int .i64 2, .int .i64 2]) rfl rfl rfl rfl Try.underlying45 sz3 (by decide) ze3 rfl (by decide) rfl (fun S29 a30 => ?_)
    refine o_unguard 45 rfl rfl ?_
    refine o_call0 (v := .bool (Ref.sameInts (Ws.sizes ([3, 1, 3, 2, 2, 9, 8]) (2 : Int)) ([1, 2, 2, 2, 1, 2, 2]))) rfl (sameInts_ok (Ws.sizes ([3, 1, 3, 2, 2, 9, 8]) (2 : Int)) a11 c12 ([1, 2, 2, 2, 1, 2, 2]) a30 ([1, 2, 2, 2, 1, 2, 2].length)) hf31 (fun w hw => ⟨(rd_own (i := 4) rfl) w hw, (rd_own (i := 0) rfl) w hw⟩) rfl ?_
    refine o_pure (p_pick_true (u := .bool (Ref.sameInts (Ws.sizes ([3, 1, 3, 2, 2, 9, 8]) (2 : Int)) ([1, 2, 2, 2, 1, 2, 2]))) rfl rfl) rfl rfl rfl ?_
    exact o_sub (Sub.cons rfl (Sub.skip rfl (Sub.skip rfl (Sub.skip rfl (Sub.skip rfl (Sub.skip rfl (Sub.refl _))))))) (o_drop (List.Sublist.cons _ (List.Sublist.cons_cons _ (List.Sublist.cons_cons _ (List.Sublist.cons_cons _ (List.Sublist.cons_cons _ (List.Sublist.cons_cons _ (List.Sublist.cons_cons _ (List.Sublist.cons_cons _ (List.Sublist.slnil))))))))) hk)
  · intro hb28 hk
    refine o_guard_no rfl 45 rfl rfl rfl rfl rfl ?_
    refine o_guard_no rfl 45 rfl rfl rfl rfl rfl ?_
    refine o_guard_no rfl 45 rfl rfl rfl rfl rfl ?_
    refine o_pure (p_pick_false (v := .bool false) rfl rfl) rfl rfl rfl ?_
    exact o_sub (Sub.cons rfl (Sub.skip rfl (Sub.skip rfl (Sub.skip rfl (Sub.skip rfl (Sub.skip rfl (Sub.refl _))))))) hk
  refine o_pure (p_move (v := .bool (((Ref.sameInts (Ws.setR ([3, 1, 3, 2, 2, 9, 8]) (3 : Int) (3 : Int)) ([1, 2, 3])) && ((Ws.setErr ([3, 1, 3, 2, 2, 9, 8]) (3 : Int) (3 : Int)) == 0)) && (Ref.sameInts (Ws.sizes ([3, 1, 3, 2, 2, 9, 8]) (2 : Int)) ([1, 2, 2, 2, 1, 2, 2])))) rfl) rfl rfl rfl ?_
  refine o_and (p := 53) 3 ((Ws.check ([3, 1, 3, 2, 2, 9, 8]) (2 : Int)) == 0) ?_ ?_ ?_
  · intro hb32 hk
    simp only [Bool.and_eq_true, beq_iff_eq] at hb32
    refine o_unguard 50 rfl rfl ?_
    refine o_pure (p_move (v := .int .i64 (Ws.check ([3, 1, 3, 2, 2, 9, 8]) (2 : Int))) rfl) rfl rfl rfl ?_
    refine o_unguard 50 rfl rfl ?_
    refine o_pure (p_eq (p := (Ws.check ([3, 1, 3, 2, 2, 9, 8]) (2 : Int))) (q := 0) rfl rfl) rfl rfl rfl ?_
    refine o_pure (p_pick_true (u := .bool ((Ws.check ([3, 1, 3, 2, 2, 9, 8]) (2 : Int)) == 0)) rfl rfl) rfl rfl rfl ?_
    exact o_sub (Sub.cons rfl (Sub.skip rfl (Sub.skip rfl (Sub.skip rfl (Sub.skip rfl (Sub.refl _)))))) hk
  · intro hb32 hk
    refine o_guard_no rfl 50 rfl rfl rfl rfl rfl ?_
    refine o_guard_no rfl 50 rfl rfl rfl rfl rfl ?_
    refine o_pure (p_pick_false (v := .bool false) rfl rfl) rfl rfl rfl ?_
    exact o_sub (Sub.cons rfl (Sub.skip rfl (Sub.skip rfl (Sub.skip rfl (Sub.skip rfl (Sub.refl _)))))) hk
  refine o_pure (p_move (v := .bool ((((Ref.sameInts (Ws.setR ([3, 1, 3, 2, 2, 9, 8]) (3 : Int) (3 : Int)) ([1, 2, 3])) && ((Ws.setErr ([3, 1, 3, 2, 2, 9, 8]) (3 : Int) (3 : Int)) == 0)) && (Ref.sameInts (Ws.sizes ([3, 1, 3, 2, 2, 9, 8]) (2 : Int)) ([1, 2, 2, 2, 1, 2, 2]))) && ((Ws.check ([3, 1, 3, 2, 2, 9, 8]) (2 : Int)) == 0))) rfl) rfl rfl rfl ?_
  refine o_and (p := 57) 3 ((Ws.faults ([3, 1, 3, 2, 2, 9, 8]) (2 : Int)) == 5) ?_ ?_ ?_
  · intro hb33 hk
    simp only [Bool.and_eq_true, beq_iff_eq] at hb33
    refine o_unguard 54 rfl rfl ?_
    refine o_pure (p_move (v := .int .i64 (Ws.faults ([3, 1, 3, 2, 2, 9, 8]) (2 : Int))) rfl) rfl rfl rfl ?_
    refine o_unguard 54 rfl rfl ?_
    refine o_pure (p_eq (p := (Ws.faults ([3, 1, 3, 2, 2, 9, 8]) (2 : Int))) (q := 5) rfl rfl) rfl rfl rfl ?_
    refine o_pure (p_pick_true (u := .bool ((Ws.faults ([3, 1, 3, 2, 2, 9, 8]) (2 : Int)) == 5)) rfl rfl) rfl rfl rfl ?_
    exact o_sub (Sub.cons rfl (Sub.skip rfl (Sub.skip rfl (Sub.skip rfl (Sub.skip rfl (Sub.refl _)))))) hk
  · intro hb33 hk
    refine o_guard_no rfl 54 rfl rfl rfl rfl rfl ?_
    refine o_guard_no rfl 54 rfl rfl rfl rfl rfl ?_
    refine o_pure (p_pick_false (v := .bool false) rfl rfl) rfl rfl rfl ?_
    exact o_sub (Sub.cons rfl (Sub.skip rfl (Sub.skip rfl (Sub.skip rfl (Sub.skip rfl (Sub.refl _)))))) hk
  refine o_pure (p_move (v := .bool (((((Ref.sameInts (Ws.setR ([3, 1, 3, 2, 2, 9, 8]) (3 : Int) (3 : Int)) ([1, 2, 3])) && ((Ws.setErr ([3, 1, 3, 2, 2, 9, 8]) (3 : Int) (3 : Int)) == 0)) && (Ref.sameInts (Ws.sizes ([3, 1, 3, 2, 2, 9, 8]) (2 : Int)) ([1, 2, 2, 2, 1, 2, 2]))) && ((Ws.check ([3, 1, 3, 2, 2, 9, 8]) (2 : Int)) == 0)) && ((Ws.faults ([3, 1, 3, 2, 2, 9, 8]) (2 : Int)) == 5))) rfl) rfl rfl rfl ?_
  refine o_and (p := 61) 3 ((Ws.check ([3, 1, 3, 2, 2, 9, 8]) (2 : Int)) == 0) ?_ ?_ ?_
  · intro hb34 hk
    simp only [Bool.and_eq_true, beq_iff_eq] at hb34
    refine o_unguard 58 rfl rfl ?_
    refine o_pure (p_move (v := .int .i64 (Ws.check ([3, 1, 3, 2, 2, 9, 8]) (2 : Int))) rfl) rfl rfl rfl ?_
    refine o_unguard 58 rfl rfl ?_
    refine o_pure (p_eq (p := (Ws.check ([3, 1, 3, 2, 2, 9, 8]) (2 : Int))) (q := 0) rfl rfl) rfl rfl rfl ?_
    refine o_pure (p_pick_true (u := .bool ((Ws.check ([3, 1, 3, 2, 2, 9, 8]) (2 : Int)) == 0)) rfl rfl) rfl rfl rfl ?_
    exact o_sub (Sub.cons rfl (Sub.skip rfl (Sub.skip rfl (Sub.skip rfl (Sub.skip rfl (Sub.refl _)))))) hk
  · intro hb34 hk
    refine o_guard_no rfl 58 rfl rfl rfl rfl rfl ?_
    refine o_guard_no rfl 58 rfl rfl rfl rfl rfl ?_
    refine o_pure (p_pick_false (v := .bool false) rfl rfl) rfl rfl rfl ?_
    exact o_sub (Sub.cons rfl (Sub.skip rfl (Sub.skip rfl (Sub.skip rfl (Sub.skip rfl (Sub.refl _)))))) hk
  refine o_pure (p_move (v := .bool ((((((Ref.sameInts (Ws.setR ([3, 1, 3, 2, 2, 9, 8]) (3 : Int) (3 : Int)) ([1, 2, 3])) && ((Ws.setErr ([3, 1, 3, 2, 2, 9, 8]) (3 : Int) (3 : Int)) == 0)) && (Ref.sameInts (Ws.sizes ([3, 1, 3, 2, 2, 9, 8]) (2 : Int)) ([1, 2, 2, 2, 1, 2, 2]))) && ((Ws.check ([3, 1, 3, 2, 2, 9, 8]) (2 : Int)) == 0)) && ((Ws.faults ([3, 1, 3, 2, 2, 9, 8]) (2 : Int)) == 5)) && ((Ws.check ([3, 1, 3, 2, 2, 9, 8]) (2 : Int)) == 0))) rfl) rfl rfl rfl ?_
  refine o_and (p := 66) 4 (Ref.sameInts (Ws.phases ([3, 1, 3, 2, 2, 9, 8]) (2 : Int) (1 : Int)) ([0, 4, 6])) ?_ ?_ ?_
  · intro hb35 hk
    simp only [Bool.and_eq_true, beq_iff_eq] at hb35
    refine o_unguard 62 rfl rfl ?_
    refine o_pure (p_move (v := .slice a16 (Ws.phases ([3, 1, 3, 2, 2, 9, 8]) (2 : Int) (1 : Int)).length c17) rfl) rfl rfl rfl ?_
    refine o_unguard 62 rfl rfl ?_
    refine o_buildSlice (m := 3) (T := tInt) (L := [0, 4, 6]) (vs := [.int .i64 0, .int .i64 4, .int .i64 6]) rfl rfl rfl rfl Try.underlying45 sz3 (by decide) ze3 rfl (by decide) rfl (fun S36 a37 => ?_)
    refine o_unguard 62 rfl rfl ?_
    refine o_call0 (v := .bool (Ref.sameInts (Ws.phases ([3, 1, 3, 2, 2, 9, 8]) (2 : Int) (1 : Int)) ([0, 4, 6]))) rfl (sameInts_ok (Ws.phases ([3, 1, 3, 2, 2, 9, 8]) (2 : Int) (1 : Int)) a16 c17 ([0, 4, 6]) a37 ([0, 4, 6].length)) hf31 (fun w hw => ⟨(rd_own (i := 3) rfl) w hw, (rd_own (i := 0) rfl) w hw⟩) rfl ?_
    refine o_pure (p_pick_true (u := .bool (Ref.sameInts (Ws.phases ([3, 1, 3, 2, 2, 9, 8]) (2 : Int) (1 : Int)) ([0, 4, 6]))) rfl rfl) rfl rfl rfl ?_
    exact o_sub (Sub.cons rfl (Sub.skip rfl (Sub.skip rfl (Sub.skip rfl (Sub.skip rfl (Sub.skip rfl (Sub.refl _))))))) (o_drop (List.Sublist.cons _ (List.Sublist.cons_cons _ (List.Sublist.cons_cons _ (List.Sublist.cons_cons _ (List.Sublist.cons_cons _ (List.Sublist.cons_cons _ (List.Sublist.cons_cons _ (List.Sublist.cons_cons _ (List.Sublist.slnil))))))))) hk)
  · intro hb35 hk
    refine o_guard_no rfl 62 rfl rfl rfl rfl rfl ?_
    refine o_guard_no rfl 62 rfl rfl rfl rfl rfl ?_
    refine o_guard_no rfl 62 rfl rfl rfl rfl rfl ?_
    refine o_pure (p_pick_false (v := .bool false) rfl rfl) rfl rfl rfl ?_
    exact o_sub (Sub.cons rfl (Sub.skip rfl (Sub.skip rfl (Sub.skip rfl (Sub.skip rfl (Sub.skip rfl (Sub.refl _))))))) hk
  refine o_pure (p_move (v := .bool (((((((Ref.sameInts (Ws.setR ([3, 1, 3, 2, 2, 9, 8]) (3 : Int) (3 : Int)) ([1, 2, 3])) && ((Ws.setErr ([3, 1, 3, 2, 2, 9, 8]) (3 : Int) (3 : Int)) == 0)) && (Ref.sameInts (Ws.sizes ([3, 1, 3, 2, 2, 9, 8]) (2 : Int)) ([1, 2, 2, 2, 1, 2, 2]))) && ((Ws.check ([3, 1, 3, 2, 2, 9, 8]) (2 : Int)) == 0)) && ((Ws.faults ([3, 1, 3, 2, 2, 9, 8]) (2 : Int)) == 5)) && ((Ws.check ([3, 1, 3, 2, 2, 9, 8]) (2 : Int)) == 0)) && (Ref.sameInts (Ws.phases ([3, 1, 3, 2, 2, 9, 8]) (2 : Int) (1 : Int)) ([0, 4, 6])))) rfl) rfl rfl rfl ?_
  refine o_and (p := 70) 3 ((Ws.phErr ([3, 1, 3, 2, 2, 9, 8]) (2 : Int) (1 : Int)) == 0) ?_ ?_ ?_
  · intro hb39 hk
    simp only [Bool.and_eq_true, beq_iff_eq] at hb39
    refine o_unguard 67 rfl rfl ?_
    refine o_pure (p_move (v := .int .i64 (Ws.phErr ([3, 1, 3, 2, 2, 9, 8]) (2 : Int) (1 : Int))) rfl) rfl rfl rfl ?_
    refine o_unguard 67 rfl rfl ?_
    refine o_pure (p_eq (p := (Ws.phErr ([3, 1, 3, 2, 2, 9, 8]) (2 : Int) (1 : Int))) (q := 0) rfl rfl) rfl rfl rfl ?_
    refine o_pure (p_pick_true (u := .bool ((Ws.phErr ([3, 1, 3, 2, 2, 9, 8]) (2 : Int) (1 : Int)) == 0)) rfl rfl) rfl rfl rfl ?_
    exact o_sub (Sub.cons rfl (Sub.skip rfl (Sub.skip rfl (Sub.skip rfl (Sub.skip rfl (Sub.refl _)))))) hk
  · intro hb39 hk
    refine o_guard_no rfl 67 rfl rfl rfl rfl rfl ?_
    refine o_guard_no rfl 67 rfl rfl rfl rfl rfl ?_
    refine o_pure (p_pick_false (v := .bool false) rfl rfl) rfl rfl rfl ?_
    exact o_sub (Sub.cons rfl (Sub.skip rfl (Sub.skip rfl (Sub.skip rfl (Sub.skip rfl (Sub.refl _)))))) hk
  refine o_pure (p_move (v := .bool ((((((((Ref.sameInts (Ws.setR ([3, 1, 3, 2, 2, 9, 8]) (3 : Int) (3 : Int)) ([1, 2, 3])) && ((Ws.setErr ([3, 1, 3, 2, 2, 9, 8]) (3 : Int) (3 : Int)) == 0)) && (Ref.sameInts (Ws.sizes ([3, 1, 3, 2, 2, 9, 8]) (2 : Int)) ([1, 2, 2, 2, 1, 2, 2]))) && ((Ws.check ([3, 1, 3, 2, 2, 9, 8]) (2 : Int)) == 0)) && ((Ws.faults ([3, 1, 3, 2, 2, 9, 8]) (2 : Int)) == 5)) && ((Ws.check ([3, 1, 3, 2, 2, 9, 8]) (2 : Int)) == 0)) && (Ref.sameInts (Ws.phases ([3, 1, 3, 2, 2, 9, 8]) (2 : Int) (1 : Int)) ([0, 4, 6]))) && ((Ws.phErr ([3, 1, 3, 2, 2, 9, 8]) (2 : Int) (1 : Int)) == 0))) rfl) rfl rfl rfl ?_
  refine o_and (p := 74) 3 ((Ws.setErr ([3, 1, 3, 2, 2, 9, 8]) (7 : Int) (1 : Int)) == 3) ?_ ?_ ?_
  · intro hb40 hk
    simp only [Bool.and_eq_true, beq_iff_eq] at hb40
    refine o_unguard 71 rfl rfl ?_
    refine o_pure (p_move (v := .int .i64 (Ws.setErr ([3, 1, 3, 2, 2, 9, 8]) (7 : Int) (1 : Int))) rfl) rfl rfl rfl ?_
    refine o_unguard 71 rfl rfl ?_
    refine o_pure (p_eq (p := (Ws.setErr ([3, 1, 3, 2, 2, 9, 8]) (7 : Int) (1 : Int))) (q := 3) rfl rfl) rfl rfl rfl ?_
    refine o_pure (p_pick_true (u := .bool ((Ws.setErr ([3, 1, 3, 2, 2, 9, 8]) (7 : Int) (1 : Int)) == 3)) rfl rfl) rfl rfl rfl ?_
    exact o_sub (Sub.cons rfl (Sub.skip rfl (Sub.skip rfl (Sub.skip rfl (Sub.skip rfl (Sub.refl _)))))) hk
  · intro hb40 hk
    refine o_guard_no rfl 71 rfl rfl rfl rfl rfl ?_
    refine o_guard_no rfl 71 rfl rfl rfl rfl rfl ?_
    refine o_pure (p_pick_false (v := .bool false) rfl rfl) rfl rfl rfl ?_
    exact o_sub (Sub.cons rfl (Sub.skip rfl (Sub.skip rfl (Sub.skip rfl (Sub.skip rfl (Sub.refl _)))))) hk
  refine o_pure (p_assign (v := .bool (((((((((Ref.sameInts (Ws.setR ([3, 1, 3, 2, 2, 9, 8]) (3 : Int) (3 : Int)) ([1, 2, 3])) && ((Ws.setErr ([3, 1, 3, 2, 2, 9, 8]) (3 : Int) (3 : Int)) == 0)) && (Ref.sameInts (Ws.sizes ([3, 1, 3, 2, 2, 9, 8]) (2 : Int)) ([1, 2, 2, 2, 1, 2, 2]))) && ((Ws.check ([3, 1, 3, 2, 2, 9, 8]) (2 : Int)) == 0)) && ((Ws.faults ([3, 1, 3, 2, 2, 9, 8]) (2 : Int)) == 5)) && ((Ws.check ([3, 1, 3, 2, 2, 9, 8]) (2 : Int)) == 0)) && (Ref.sameInts (Ws.phases ([3, 1, 3, 2, 2, 9, 8]) (2 : Int) (1 : Int)) ([0, 4, 6]))) && ((Ws.phErr ([3, 1, 3, 2, 2, 9, 8]) (2 : Int) (1 : Int)) == 0)) && ((Ws.setErr ([3, 1, 3, 2, 2, 9, 8]) (7 : Int) (1 : Int)) == 3))) rfl) rfl rfl rfl ?_
  refine o_nil ?_
  refine q_then ?_
  refine c_ret ?_
  have hr0 : ((((((((((Ref.sameInts (Ws.setR ([3, 1, 3, 2, 2, 9, 8]) (3 : Int) (3 : Int)) ([1, 2, 3])) && ((Ws.setErr ([3, 1, 3, 2, 2, 9, 8]) (3 : Int) (3 : Int)) == 0)) && (Ref.sameInts (Ws.sizes ([3, 1, 3, 2, 2, 9, 8]) (2 : Int)) ([1, 2, 2, 2, 1, 2, 2]))) && ((Ws.check ([3, 1, 3, 2, 2, 9, 8]) (2 : Int)) == 0)) && ((Ws.faults ([3, 1, 3, 2, 2, 9, 8]) (2 : Int)) == 5)) && ((Ws.check ([3, 1, 3, 2, 2, 9, 8]) (2 : Int)) == 0)) && (Ref.sameInts (Ws.phases ([3, 1, 3, 2, 2, 9, 8]) (2 : Int) (1 : Int)) ([0, 4, 6]))) && ((Ws.phErr ([3, 1, 3, 2, 2, 9, 8]) (2 : Int) (1 : Int)) == 0)) && ((Ws.setErr ([3, 1, 3, 2, 2, 9, 8]) (7 : Int) (1 : Int)) == 3)) : Bool) = true := by
    first | rfl | (rw [Ws.begun_set]; decide +kernel)
  refine q_end0 (v := .bool (((((((((Ref.sameInts (Ws.setR ([3, 1, 3, 2, 2, 9, 8]) (3 : Int) (3 : Int)) ([1, 2, 3])) && ((Ws.setErr ([3, 1, 3, 2, 2, 9, 8]) (3 : Int) (3 : Int)) == 0)) && (Ref.sameInts (Ws.sizes ([3, 1, 3, 2, 2, 9, 8]) (2 : Int)) ([1, 2, 2, 2, 1, 2, 2]))) && ((Ws.check ([3, 1, 3, 2, 2, 9, 8]) (2 : Int)) == 0)) && ((Ws.faults ([3, 1, 3, 2, 2, 9, 8]) (2 : Int)) == 5)) && ((Ws.check ([3, 1, 3, 2, 2, 9, 8]) (2 : Int)) == 0)) && (Ref.sameInts (Ws.phases ([3, 1, 3, 2, 2, 9, 8]) (2 : Int) (1 : Int)) ([0, 4, 6]))) && ((Ws.phErr ([3, 1, 3, 2, 2, 9, 8]) (2 : Int) (1 : Int)) == 0)) && ((Ws.setErr ([3, 1, 3, 2, 2, 9, 8]) (7 : Int) (1 : Int)) == 3))) (rt1 rfl (r_tmp rfl)) (i := 6) rfl ?_
  exact (by have hcc := congrArg (fun (y0 : Bool) => (.bool y0 : Value)) hr0; exact hcc)
end Go.Proofs.Ythecfjipaepcgaa
