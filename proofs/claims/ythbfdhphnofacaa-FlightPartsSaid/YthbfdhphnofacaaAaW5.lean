/- The walks, printed by a program from the translation and a specification. -/
import Derived.Test.YthbfdhphnofacaaAaF
import Derived.Test.YthbfdhphnofacaaFlPure
import Derived.Test.YthbfdhphnofacaaFlLaw
import Derived.Test.YthbfdhphnofacaaAaW2
import Derived.Test.YthbfdhphnofacaaAaW3
import Derived.Test.YthbfdhphnofacaaAaW4
namespace Go.Proofs.Ythbfdhphnofacaa
open Go.Sx Go.RowKit
set_option maxHeartbeats 8000000 in
set_option maxRecDepth 100000 in
theorem crowdBegun_ok  : Fn0 Try.prog 29 [] (fun _ => True) (.bool true) := by
  refine fn0 (nt := 66) (F0 := []) Try.func29 rfl Try.ntmps29 rfl rfl (fun w0 hpre => ?_)
  refine c_seq ?_
  refine c_region ?_
  refine o_pure (p_assign (v := .bool false) rfl) rfl rfl rfl ?_
  refine o_nil ?_
  refine q_then ?_
  refine c_seq ?_
  refine c_region ?_
  refine o_pure (p_build (cells := [.int .i64 1, .int .i64 0, .int .i64 5]) fp47 ze47 rfl rfl) rfl rfl rfl ?_
  refine o_pure (p_build (cells := [.int .i64 2, .int .i64 1, .int .i64 9]) fp47 ze47 rfl rfl) rfl rfl rfl ?_
  refine o_pure (p_build (cells := [.int .i64 1, .int .i64 4, .int .i64 7]) fp47 ze47 rfl rfl) rfl rfl rfl ?_
  refine o_pure (p_build (cells := [.int .i64 1, .int .i64 5, .int .i64 2]) fp47 ze47 rfl rfl) rfl rfl rfl ?_
  refine o_buildSlice (m := 4) (T := tCall) (L := [(⟨1, 0, 5⟩ : DCall), (⟨2, 1, 9⟩ : DCall), (⟨1, 4, 7⟩ : DCall), (⟨1, 5, 2⟩ : DCall)]) (vs := [.agg #[.int .i64 1, .int .i64 0, .int .i64 5], .agg #[.int .i64 2, .int .i64 1, .int .i64 9], .agg #[.int .i64 1, .int .i64 4, .int .i64 7], .agg #[.int .i64 1, .int .i64 5, .int .i64 2]]) rfl rfl rfl rfl Try.underlying37 sz47 (by decide) ze47 rfl (by decide) rfl (fun S1 a2 => ?_)
  refine o_pure (p_assign (v := .slice a2 ([(⟨1, 0, 5⟩ : DCall), (⟨2, 1, 9⟩ : DCall), (⟨1, 4, 7⟩ : DCall), (⟨1, 5, 2⟩ : DCall)]).length ([(⟨1, 0, 5⟩ : DCall), (⟨2, 1, 9⟩ : DCall), (⟨1, 4, 7⟩ : DCall), (⟨1, 5, 2⟩ : DCall)].length)) rfl) rfl rfl rfl ?_
  refine o_nil ?_
  refine q_then ?_
  refine c_seq ?_
  refine c_region ?_
  refine o_pure (p_move (v := .slice a2 ([(⟨1, 0, 5⟩ : DCall), (⟨2, 1, 9⟩ : DCall), (⟨1, 4, 7⟩ : DCall), (⟨1, 5, 2⟩ : DCall)]).length ([(⟨1, 0, 5⟩ : DCall), (⟨2, 1, 9⟩ : DCall), (⟨1, 4, 7⟩ : DCall), (⟨1, 5, 2⟩ : DCall)].length)) rfl) rfl rfl rfl ?_
  refine o_callM rfl (planEx_ok ([(⟨1, 0, 5⟩ : DCall), (⟨2, 1, 9⟩ : DCall), (⟨1, 4, 7⟩ : DCall), (⟨1, 5, 2⟩ : DCall)]) a2 ([(⟨1, 0, 5⟩ : DCall), (⟨2, 1, 9⟩ : DCall), (⟨1, 4, 7⟩ : DCall), (⟨1, 5, 2⟩ : DCall)].length)) hf24 (fun w hw => (rd_own (i := 0) rfl) w hw) rfl (fun _ _ _ _ ha hA => ⟨SlR.agree ha hA.1, SlR.agree ha hA.2⟩) ?_
  rintro ⟨a6, c7, a8, c9⟩ S4
  refine o_pure (p_move (v := .tuple #[.slice a6 (Flight.who ([(⟨1, 0, 5⟩ : DCall), (⟨2, 1, 9⟩ : DCall), (⟨1, 4, 7⟩ : DCall), (⟨1, 5, 2⟩ : DCall)])).length c7, .slice a8 (Flight.when_ ([(⟨1, 0, 5⟩ : DCall), (⟨2, 1, 9⟩ : DCall), (⟨1, 4, 7⟩ : DCall), (⟨1, 5, 2⟩ : DCall)])).length c9, .int .i64 (Flight.check ([(⟨1, 0, 5⟩ : DCall), (⟨2, 1, 9⟩ : DCall), (⟨1, 4, 7⟩ : DCall), (⟨1, 5, 2⟩ : DCall)]))]) rfl) rfl rfl rfl ?_
  refine o_pure (p_extract (vs := [.slice a6 (Flight.who ([(⟨1, 0, 5⟩ : DCall), (⟨2, 1, 9⟩ : DCall), (⟨1, 4, 7⟩ : DCall), (⟨1, 5, 2⟩ : DCall)])).length c7, .slice a8 (Flight.when_ ([(⟨1, 0, 5⟩ : DCall), (⟨2, 1, 9⟩ : DCall), (⟨1, 4, 7⟩ : DCall), (⟨1, 5, 2⟩ : DCall)])).length c9, .int .i64 (Flight.check ([(⟨1, 0, 5⟩ : DCall), (⟨2, 1, 9⟩ : DCall), (⟨1, 4, 7⟩ : DCall), (⟨1, 5, 2⟩ : DCall)]))]) (v := .slice a6 (Flight.who ([(⟨1, 0, 5⟩ : DCall), (⟨2, 1, 9⟩ : DCall), (⟨1, 4, 7⟩ : DCall), (⟨1, 5, 2⟩ : DCall)])).length c7) rfl rfl) rfl rfl rfl ?_
  refine o_pure (p_extract (vs := [.slice a6 (Flight.who ([(⟨1, 0, 5⟩ : DCall), (⟨2, 1, 9⟩ : DCall), (⟨1, 4, 7⟩ : DCall), (⟨1, 5, 2⟩ : DCall)])).length c7, .slice a8 (Flight.when_ ([(⟨1, 0, 5⟩ : DCall), (⟨2, 1, 9⟩ : DCall), (⟨1, 4, 7⟩ : DCall), (⟨1, 5, 2⟩ : DCall)])).length c9, .int .i64 (Flight.check ([(⟨1, 0, 5⟩ : DCall), (⟨2, 1, 9⟩ : DCall), (⟨1, 4, 7⟩ : DCall), (⟨1, 5, 2⟩ : DCall)]))]) (v := .slice a8 (Flight.when_ ([(⟨1, 0, 5⟩ : DCall), (⟨2, 1, 9⟩ : DCall), (⟨1, 4, 7⟩ : DCall), (⟨1, 5, 2⟩ : DCall)])).length c9) rfl rfl) rfl rfl rfl ?_
  refine o_pure (p_extract (vs := [.slice a6 (Flight.who ([(⟨1, 0, 5⟩ : DCall), (⟨2, 1, 9⟩ : DCall), (⟨1, 4, 7⟩ : DCall), (⟨1, 5, 2⟩ : DCall)])).length c7, .slice a8 (Flight.when_ ([(⟨1, 0, 5⟩ : DCall), (⟨2, 1, 9⟩ : DCall), (⟨1, 4, 7⟩ : DCall), (⟨1, 5, 2⟩ : DCall)])).length c9, .int .i64 (Flight.check ([(⟨1, 0, 5⟩ : DCall), (⟨2, 1, 9⟩ : DCall), (⟨1, 4, 7⟩ : DCall), (⟨1, 5, 2⟩ : DCall)]))]) (v := .int .i64 (Flight.check ([(⟨1, 0, 5⟩ : DCall), (⟨2, 1, 9⟩ : DCall), (⟨1, 4, 7⟩ : DCall), (⟨1, 5, 2⟩ : DCall)]))) rfl rfl) rfl rfl rfl ?_
  refine o_pure (p_assign (v := .slice a6 (Flight.who ([(⟨1, 0, 5⟩ : DCall), (⟨2, 1, 9⟩ : DCall), (⟨1, 4, 7⟩ : DCall), (⟨1, 5, 2⟩ : DCall)])).length c7) rfl) rfl rfl rfl ?_
  refine o_pure (p_assign (v := .slice a8 (Flight.when_ ([(⟨1, 0, 5⟩ : DCall), (⟨2, 1, 9⟩ : DCall), (⟨1, 4, 7⟩ : DCall), (⟨1, 5, 2⟩ : DCall)])).length c9) rfl) rfl rfl rfl ?_
  refine o_pure (p_assign (v := .int .i64 (Flight.check ([(⟨1, 0, 5⟩ : DCall), (⟨2, 1, 9⟩ : DCall), (⟨1, 4, 7⟩ : DCall), (⟨1, 5, 2⟩ : DCall)]))) rfl) rfl rfl rfl ?_
  refine o_nil ?_
  refine q_then ?_
  refine c_seq ?_
  refine c_region ?_
  refine o_pure (p_move (v := .slice a2 ([(⟨1, 0, 5⟩ : DCall), (⟨2, 1, 9⟩ : DCall), (⟨1, 4, 7⟩ : DCall), (⟨1, 5, 2⟩ : DCall)]).length ([(⟨1, 0, 5⟩ : DCall), (⟨2, 1, 9⟩ : DCall), (⟨1, 4, 7⟩ : DCall), (⟨1, 5, 2⟩ : DCall)].length)) rfl) rfl rfl rfl ?_
  refine o_call0 (v := .tuple #[.int .i64 (Flight.loads ([(⟨1, 0, 5⟩ : DCall), (⟨2, 1, 9⟩ : DCall), (⟨1, 4, 7⟩ : DCall), (⟨1, 5, 2⟩ : DCall)])), .int .i64 (Flight.check ([(⟨1, 0, 5⟩ : DCall), (⟨2, 1, 9⟩ : DCall), (⟨1, 4, 7⟩ : DCall), (⟨1, 5, 2⟩ : DCall)]))]) rfl (loads_ok ([(⟨1, 0, 5⟩ : DCall), (⟨2, 1, 9⟩ : DCall), (⟨1, 4, 7⟩ : DCall), (⟨1, 5, 2⟩ : DCall)]) a2 ([(⟨1, 0, 5⟩ : DCall), (⟨2, 1, 9⟩ : DCall), (⟨1, 4, 7⟩ : DCall), (⟨1, 5, 2⟩ : DCall)].length)) hf25 (fun w hw => (rd_own (i := 1) rfl) w hw) rfl ?_
  refine o_pure (p_move (v := .tuple #[.int .i64 (Flight.loads ([(⟨1, 0, 5⟩ : DCall), (⟨2, 1, 9⟩ : DCall), (⟨1, 4, 7⟩ : DCall), (⟨1, 5, 2⟩ : DCall)])), .int .i64 (Flight.check ([(⟨1, 0, 5⟩ : DCall), (⟨2, 1, 9⟩ : DCall), (⟨1, 4, 7⟩ : DCall), (⟨1, 5, 2⟩ : DCall)]))]) rfl) rfl rfl rfl ?_
  refine o_pure (p_extract (vs := [.int .i64 (Flight.loads ([(⟨1, 0, 5⟩ : DCall), (⟨2, 1, 9⟩ : DCall), (⟨1, 4, 7⟩ : DCall), (⟨1, 5, 2⟩ : DCall)])), .int .i64 (Flight.check ([(⟨1, 0, 5⟩ : DCall), (⟨2, 1, 9⟩ : DCall), (⟨1, 4, 7⟩ : DCall), (⟨1, 5, 2⟩ : DCall)]))]) (v := .int .i64 (Flight.loads ([(⟨1, 0, 5⟩ : DCall), (⟨2, 1, 9⟩ : DCall), (⟨1, 4, 7⟩ : DCall), (⟨1, 5, 2⟩ : DCall)]))) rfl rfl) rfl rfl rfl ?_
  refine o_pure (p_extract (vs := [.int .i64 (Flight.loads ([(⟨1, 0, 5⟩ : DCall), (⟨2, 1, 9⟩ : DCall), (⟨1, 4, 7⟩ : DCall), (⟨1, 5, 2⟩ : DCall)])), .int .i64 (Flight.check ([(⟨1, 0, 5⟩ : DCall), (⟨2, 1, 9⟩ : DCall), (⟨1, 4, 7⟩ : DCall), (⟨1, 5, 2⟩ : DCall)]))]) (v := .int .i64 (Flight.check ([(⟨1, 0, 5⟩ : DCall), (⟨2, 1, 9⟩ : DCall), (⟨1, 4, 7⟩ : DCall), (⟨1, 5, 2⟩ : DCall)]))) rfl rfl) rfl rfl rfl ?_
  refine o_pure (p_assign (v := .int .i64 (Flight.loads ([(⟨1, 0, 5⟩ : DCall), (⟨2, 1, 9⟩ : DCall), (⟨1, 4, 7⟩ : DCall), (⟨1, 5, 2⟩ : DCall)]))) rfl) rfl rfl rfl ?_
  refine o_pure (p_assign (v := .int .i64 (Flight.check ([(⟨1, 0, 5⟩ : DCall), (⟨2, 1, 9⟩ : DCall), (⟨1, 4, 7⟩ : DCall), (⟨1, 5, 2⟩ : DCall)]))) rfl) rfl rfl rfl ?_
  refine o_nil ?_
  refine q_then ?_
  refine c_seq ?_
  refine c_region ?_
  refine o_pure (p_move (v := .slice a2 ([(⟨1, 0, 5⟩ : DCall), (⟨2, 1, 9⟩ : DCall), (⟨1, 4, 7⟩ : DCall), (⟨1, 5, 2⟩ : DCall)]).length ([(⟨1, 0, 5⟩ : DCall), (⟨2, 1, 9⟩ : DCall), (⟨1, 4, 7⟩ : DCall), (⟨1, 5, 2⟩ : DCall)].length)) rfl) rfl rfl rfl ?_
  refine o_callM rfl (active_ok ([(⟨1, 0, 5⟩ : DCall), (⟨2, 1, 9⟩ : DCall), (⟨1, 4, 7⟩ : DCall), (⟨1, 5, 2⟩ : DCall)]) a2 ([(⟨1, 0, 5⟩ : DCall), (⟨2, 1, 9⟩ : DCall), (⟨1, 4, 7⟩ : DCall), (⟨1, 5, 2⟩ : DCall)].length) 5) hf26 (fun w hw => (rd_own (i := 1) rfl) w hw) rfl (fun _ _ _ _ ha hA => SlO.agree ha hA) ?_
  rintro ⟨a12, c13⟩ S10
  refine o_pure (p_move (v := .tuple #[.slice a12 (Flight.active ([(⟨1, 0, 5⟩ : DCall), (⟨2, 1, 9⟩ : DCall), (⟨1, 4, 7⟩ : DCall), (⟨1, 5, 2⟩ : DCall)]) 5).length c13, .int .i64 (Flight.activeErr ([(⟨1, 0, 5⟩ : DCall), (⟨2, 1, 9⟩ : DCall), (⟨1, 4, 7⟩ : DCall), (⟨1, 5, 2⟩ : DCall)]) 5)]) rfl) rfl rfl rfl ?_
  refine o_pure (p_extract (vs := [.slice a12 (Flight.active ([(⟨1, 0, 5⟩ : DCall), (⟨2, 1, 9⟩ : DCall), (⟨1, 4, 7⟩ : DCall), (⟨1, 5, 2⟩ : DCall)]) 5).length c13, .int .i64 (Flight.activeErr ([(⟨1, 0, 5⟩ : DCall), (⟨2, 1, 9⟩ : DCall), (⟨1, 4, 7⟩ : DCall), (⟨1, 5, 2⟩ : DCall)]) 5)]) (v := .slice a12 (Flight.active ([(⟨1, 0, 5⟩ : DCall), (⟨2, 1, 9⟩ : DCall), (⟨1, 4, 7⟩ : DCall), (⟨1, 5, 2⟩ : DCall)]) 5).length c13) rfl rfl) rfl rfl rfl ?_
  refine o_pure (p_extract (vs := [.slice a12 (Flight.active ([(⟨1, 0, 5⟩ : DCall), (⟨2, 1, 9⟩ : DCall), (⟨1, 4, 7⟩ : DCall), (⟨1, 5, 2⟩ : DCall)]) 5).length c13, .int .i64 (Flight.activeErr ([(⟨1, 0, 5⟩ : DCall), (⟨2, 1, 9⟩ : DCall), (⟨1, 4, 7⟩ : DCall), (⟨1, 5, 2⟩ : DCall)]) 5)]) (v := .int .i64 (Flight.activeErr ([(⟨1, 0, 5⟩ : DCall), (⟨2, 1, 9⟩ : DCall), (⟨1, 4, 7⟩ : DCall), (⟨1, 5, 2⟩ : DCall)]) 5)) rfl rfl) rfl rfl rfl ?_
  refine o_pure (p_assign (v := .slice a12 (Flight.active ([(⟨1, 0, 5⟩ : DCall), (⟨2, 1, 9⟩ : DCall), (⟨1, 4, 7⟩ : DCall), (⟨1, 5, 2⟩ : DCall)]) 5).length c13) rfl) rfl rfl rfl ?_
  refine o_pure (p_assign (v := .int .i64 (Flight.activeErr ([(⟨1, 0, 5⟩ : DCall), (⟨2, 1, 9⟩ : DCall), (⟨1, 4, 7⟩ : DCall), (⟨1, 5, 2⟩ : DCall)]) 5)) rfl) rfl rfl rfl ?_
  refine o_nil ?_
  refine q_then ?_
  refine c_seq ?_
  refine c_region ?_
  refine o_pure (p_move (v := .slice a6 (Flight.who ([(⟨1, 0, 5⟩ : DCall), (⟨2, 1, 9⟩ : DCall), (⟨1, 4, 7⟩ : DCall), (⟨1, 5, 2⟩ : DCall)])).length c7) rfl) rfl rfl rfl ?_
  refine o_buildSlice (m := 4) (T := tInt) (L := [0, 1, 0, 3]) (vs := [.int .i64 0, .int .i64 1, .int .i64 0, .int .i64 3]) rfl rfl rfl rfl Try.underlying38 sz3 (by decide) ze3 rfl (by decide) rfl (fun S14 a15 => ?_)
  refine o_call0 (v := .bool (Ref.sameInts (Flight.who ([(⟨1, 0, 5⟩ : DCall), (⟨2, 1, 9⟩ : DCall), (⟨1, 4, 7⟩ : DCall), (⟨1, 5, 2⟩ : DCall)])) ([0, 1, 0, 3]))) rfl (sameInts_ok (Flight.who ([(⟨1, 0, 5⟩ : DCall), (⟨2, 1, 9⟩ : DCall), (⟨1, 4, 7⟩ : DCall), (⟨1, 5, 2⟩ : DCall)])) a6 c7 ([0, 1, 0, 3]) a15 ([0, 1, 0, 3].length)) hf31 (fun w hw => ⟨(rd_ent (i := 2) rfl (fun w h => h.1)) w hw, (rd_own (i := 0) rfl) w hw⟩) rfl ?_
  refine o_pure (p_move (v := .bool (Ref.sameInts (Flight.who ([(⟨1, 0, 5⟩ : DCall), (⟨2, 1, 9⟩ : DCall), (⟨1, 4, 7⟩ : DCall), (⟨1, 5, 2⟩ : DCall)])) ([0, 1, 0, 3]))) rfl) rfl rfl rfl ?_
  refine o_and (p := 37) 4 (Ref.sameInts (Flight.when_ ([(⟨1, 0, 5⟩ : DCall), (⟨2, 1, 9⟩ : DCall), (⟨1, 4, 7⟩ : DCall), (⟨1, 5, 2⟩ : DCall)])) ([5, 10, 5, 7])) ?_ ?_ ?_
  · intro hb17 hk
    skip
    refine o_unguard 33 rfl rfl ?_
    refine o_pure (p_move (v := .slice a8 (Flight.when_ ([(⟨1, 0, 5⟩ : DCall), (⟨2, 1, 9⟩ : DCall), (⟨1, 4, 7⟩ : DCall), (⟨1, 5, 2⟩ : DCall)])).length c9) rfl) rfl rfl rfl ?_
    refine o_unguard 33 rfl rfl ?_
    refine o_buildSlice (m := 4) (T := tInt) (L := [5, 10, 5, 7]) (vs := [.int .i64 5, .int .i64 10, .int .i64 5, .int .i64 7]) rfl rfl rfl rfl Try.underlying38 sz3 (by decide) ze3 rfl (by decide) rfl (fun S18 a19 => ?_)
    refine o_unguard 33 rfl rfl ?_
    refine o_call0 (v := .bool (Ref.sameInts (Flight.when_ ([(⟨1, 0, 5⟩ : DCall), (⟨2, 1, 9⟩ : DCall), (⟨1, 4, 7⟩ : DCall), (⟨1, 5, 2⟩ : DCall)])) ([5, 10, 5, 7]))) rfl (sameInts_ok (Flight.when_ ([(⟨1, 0, 5⟩ : DCall), (⟨2, 1, 9⟩ : DCall), (⟨1, 4, 7⟩ : DCall), (⟨1, 5, 2⟩ : DCall)])) a8 c9 ([5, 10, 5, 7]) a19 ([5, 10, 5, 7].length)) hf31 (fun w hw => ⟨(rd_ent (i := 3) rfl (fun w h => h.2)) w hw, (rd_own (i := 0) rfl) w hw⟩) rfl ?_
    refine o_pure (p_pick_true (u := .bool (Ref.sameInts (Flight.when_ ([(⟨1, 0, 5⟩ : DCall), (⟨2, 1, 9⟩ : DCall), (⟨1, 4, 7⟩ : DCall), (⟨1, 5, 2⟩ : DCall)])) ([5, 10, 5, 7]))) rfl rfl) rfl rfl rfl ?_
    exact o_sub (Sub.cons rfl (Sub.skip rfl (Sub.skip rfl (Sub.skip rfl (Sub.skip rfl (Sub.skip rfl (Sub.refl _))))))) (o_drop (List.Sublist.cons _ (List.Sublist.cons_cons _ (List.Sublist.cons_cons _ (List.Sublist.cons_cons _ (List.Sublist.cons_cons _ (List.Sublist.cons_cons _ (List.Sublist.slnil))))))) hk)
  · intro hb17 hk
    refine o_guard_no rfl 33 rfl rfl rfl rfl rfl ?_
    refine o_guard_no rfl 33 rfl rfl rfl rfl rfl ?_
    refine o_guard_no rfl 33 rfl rfl rfl rfl rfl ?_
    refine o_pure (p_pick_false (v := .bool false) rfl rfl) rfl rfl rfl ?_
    exact o_sub (Sub.cons rfl (Sub.skip rfl (Sub.skip rfl (Sub.skip rfl (Sub.skip rfl (Sub.skip rfl (Sub.refl _))))))) hk
  refine o_pure (p_move (v := .bool ((Ref.sameInts (Flight.who ([(⟨1, 0, 5⟩ : DCall), (⟨2, 1, 9⟩ : DCall), (⟨1, 4, 7⟩ : DCall), (⟨1, 5, 2⟩ : DCall)])) ([0, 1, 0, 3])) && (Ref.sameInts (Flight.when_ ([(⟨1, 0, 5⟩ : DCall), (⟨2, 1, 9⟩ : DCall), (⟨1, 4, 7⟩ : DCall), (⟨1, 5, 2⟩ : DCall)])) ([5, 10, 5, 7])))) rfl) rfl rfl rfl ?_
  refine o_and (p := 41) 3 ((Flight.check ([(⟨1, 0, 5⟩ : DCall), (⟨2, 1, 9⟩ : DCall), (⟨1, 4, 7⟩ : DCall), (⟨1, 5, 2⟩ : DCall)])) == 0) ?_ ?_ ?_
  · intro hb21 hk
    simp only [Bool.and_eq_true] at hb21
    refine o_unguard 38 rfl rfl ?_
    refine o_pure (p_move (v := .int .i64 (Flight.check ([(⟨1, 0, 5⟩ : DCall), (⟨2, 1, 9⟩ : DCall), (⟨1, 4, 7⟩ : DCall), (⟨1, 5, 2⟩ : DCall)]))) rfl) rfl rfl rfl ?_
    refine o_unguard 38 rfl rfl ?_
    refine o_pure (p_eq (p := (Flight.check ([(⟨1, 0, 5⟩ : DCall), (⟨2, 1, 9⟩ : DCall), (⟨1, 4, 7⟩ : DCall), (⟨1, 5, 2⟩ : DCall)]))) (q := 0) rfl rfl) rfl rfl rfl ?_
    refine o_pure (p_pick_true (u := .bool ((Flight.check ([(⟨1, 0, 5⟩ : DCall), (⟨2, 1, 9⟩ : DCall), (⟨1, 4, 7⟩ : DCall), (⟨1, 5, 2⟩ : DCall)])) == 0)) rfl rfl) rfl rfl rfl ?_
    exact o_sub (Sub.cons rfl (Sub.skip rfl (Sub.skip rfl (Sub.skip rfl (Sub.skip rfl (Sub.refl _)))))) hk
  · intro hb21 hk
    refine o_guard_no rfl 38 rfl rfl rfl rfl rfl ?_
    refine o_guard_no rfl 38 rfl rfl rfl rfl rfl ?_
    refine o_pure (p_pick_false (v := .bool false) rfl rfl) rfl rfl rfl ?_
    exact o_sub (Sub.cons rfl (Sub.skip rfl (Sub.skip rfl (Sub.skip rfl (Sub.skip rfl (Sub.refl _)))))) hk
  refine o_pure (p_move (v := .bool (((Ref.sameInts (Flight.who ([(⟨1, 0, 5⟩ : DCall), (⟨2, 1, 9⟩ : DCall), (⟨1, 4, 7⟩ : DCall), (⟨1, 5, 2⟩ : DCall)])) ([0, 1, 0, 3])) && (Ref.sameInts (Flight.when_ ([(⟨1, 0, 5⟩ : DCall), (⟨2, 1, 9⟩ : DCall), (⟨1, 4, 7⟩ : DCall), (⟨1, 5, 2⟩ : DCall)])) ([5, 10, 5, 7]))) && ((Flight.check ([(⟨1, 0, 5⟩ : DCall), (⟨2, 1, 9⟩ : DCall), (⟨1, 4, 7⟩ : DCall), (⟨1, 5, 2⟩ : DCall)])) == 0))) rfl) rfl rfl rfl ?_
  refine o_and (p := 45) 3 ((Flight.loads ([(⟨1, 0, 5⟩ : DCall), (⟨2, 1, 9⟩ : DCall), (⟨1, 4, 7⟩ : DCall), (⟨1, 5, 2⟩ : DCall)])) == 3) ?_ ?_ ?_
  · intro hb22 hk
    simp only [Bool.and_eq_true, beq_iff_eq] at hb22
    refine o_unguard 42 rfl rfl ?_
    refine o_pure (p_move (v := .int .i64 (Flight.loads ([(⟨1, 0, 5⟩ : DCall), (⟨2, 1, 9⟩ : DCall), (⟨1, 4, 7⟩ : DCall), (⟨1, 5, 2⟩ : DCall)]))) rfl) rfl rfl rfl ?_
    refine o_unguard 42 rfl rfl ?_
    refine o_pure (p_eq (p := (Flight.loads ([(⟨1, 0, 5⟩ : DCall), (⟨2, 1, 9⟩ : DCall), (⟨1, 4, 7⟩ : DCall), (⟨1, 5, 2⟩ : DCall)]))) (q := 3) rfl rfl) rfl rfl rfl ?_
    refine o_pure (p_pick_true (u := .bool ((Flight.loads ([(⟨1, 0, 5⟩ : DCall), (⟨2, 1, 9⟩ : DCall), (⟨1, 4, 7⟩ : DCall), (⟨1, 5, 2⟩ : DCall)])) == 3)) rfl rfl) rfl rfl rfl ?_
    exact o_sub (Sub.cons rfl (Sub.skip rfl (Sub.skip rfl (Sub.skip rfl (Sub.skip rfl (Sub.refl _)))))) hk
  · intro hb22 hk
    refine o_guard_no rfl 42 rfl rfl rfl rfl rfl ?_
    refine o_guard_no rfl 42 rfl rfl rfl rfl rfl ?_
    refine o_pure (p_pick_false (v := .bool false) rfl rfl) rfl rfl rfl ?_
    exact o_sub (Sub.cons rfl (Sub.skip rfl (Sub.skip rfl (Sub.skip rfl (Sub.skip rfl (Sub.refl _)))))) hk
  refine o_pure (p_move (v := .bool ((((Ref.sameInts (Flight.who ([(⟨1, 0, 5⟩ : DCall), (⟨2, 1, 9⟩ : DCall), (⟨1, 4, 7⟩ : DCall), (⟨1, 5, 2⟩ : DCall)])) ([0, 1, 0, 3])) && (Ref.sameInts (Flight.when_ ([(⟨1, 0, 5⟩ : DCall), (⟨2, 1, 9⟩ : DCall), (⟨1, 4, 7⟩ : DCall), (⟨1, 5, 2⟩ : DCall)])) ([5, 10, 5, 7]))) && ((Flight.check ([(⟨1, 0, 5⟩ : DCall), (⟨2, 1, 9⟩ : DCall), (⟨1, 4, 7⟩ : DCall), (⟨1, 5, 2⟩ : DCall)])) == 0)) && ((Flight.loads ([(⟨1, 0, 5⟩ : DCall), (⟨2, 1, 9⟩ : DCall), (⟨1, 4, 7⟩ : DCall), (⟨1, 5, 2⟩ : DCall)])) == 3))) rfl) rfl rfl rfl ?_
  refine o_and (p := 49) 3 ((Flight.check ([(⟨1, 0, 5⟩ : DCall), (⟨2, 1, 9⟩ : DCall), (⟨1, 4, 7⟩ : DCall), (⟨1, 5, 2⟩ : DCall)])) == 0) ?_ ?_ ?_
  · intro hb23 hk
    simp only [Bool.and_eq_true, beq_iff_eq] at hb23
    refine o_unguard 46 rfl rfl ?_
    refine o_pure (p_move (v := .int .i64 (Flight.check ([(⟨1, 0, 5⟩ : DCall), (⟨2, 1, 9⟩ : DCall), (⟨1, 4, 7⟩ : DCall), (⟨1, 5, 2⟩ : DCall)]))) rfl) rfl rfl rfl ?_
    refine o_unguard 46 rfl rfl ?_
    refine o_pure (p_eq (p := (Flight.check ([(⟨1, 0, 5⟩ : DCall), (⟨2, 1, 9⟩ : DCall), (⟨1, 4, 7⟩ : DCall), (⟨1, 5, 2⟩ : DCall)]))) (q := 0) rfl rfl) rfl rfl rfl ?_
    refine o_pure (p_pick_true (u := .bool ((Flight.check ([(⟨1, 0, 5⟩ : DCall), (⟨2, 1, 9⟩ : DCall), (⟨1, 4, 7⟩ : DCall), (⟨1, 5, 2⟩ : DCall)])) == 0)) rfl rfl) rfl rfl rfl ?_
    exact o_sub (Sub.cons rfl (Sub.skip rfl (Sub.skip rfl (Sub.skip rfl (Sub.skip rfl (Sub.refl _)))))) hk
  · intro hb23 hk
    refine o_guard_no rfl 46 rfl rfl rfl rfl rfl ?_
    refine o_guard_no rfl 46 rfl rfl rfl rfl rfl ?_
    refine o_pure (p_pick_false (v := .bool false) rfl rfl) rfl rfl rfl ?_
    exact o_sub (Sub.cons rfl (Sub.skip rfl (Sub.skip rfl (Sub.skip rfl (Sub.skip rfl (Sub.refl _)))))) hk
  refine o_pure (p_move (v := .bool (((((Ref.sameInts (Flight.who ([(⟨1, 0, 5⟩ : DCall), (⟨2, 1, 9⟩ : DCall), (⟨1, 4, 7⟩ : DCall), (⟨1, 5, 2⟩ : DCall)])) ([0, 1, 0, 3])) && (Ref.sameInts (Flight.when_ ([(⟨1, 0, 5⟩ : DCall), (⟨2, 1, 9⟩ : DCall), (⟨1, 4, 7⟩ : DCall), (⟨1, 5, 2⟩ : DCall)])) ([5, 10, 5, 7]))) && ((Flight.check ([(⟨1, 0, 5⟩ : DCall), (⟨2, 1, 9⟩ : DCall), (⟨1, 4, 7⟩ : DCall), (⟨1, 5, 2⟩ : DCall)])) == 0)) && ((Flight.loads ([(⟨1, 0, 5⟩ : DCall), (⟨2, 1, 9⟩ : DCall), (⟨1, 4, 7⟩ : DCall), (⟨1, 5, 2⟩ : DCall)])) == 3)) && ((Flight.check ([(⟨1, 0, 5⟩ : DCall), (⟨2, 1, 9⟩ : DCall), (⟨1, 4, 7⟩ : DCall), (⟨1, 5, 2⟩ : DCall)])) == 0))) rfl) rfl rfl rfl ?_
  refine o_and (p := 54) 4 (Ref.sameInts (Flight.active ([(⟨1, 0, 5⟩ : DCall), (⟨2, 1, 9⟩ : DCall), (⟨1, 4, 7⟩ : DCall), (⟨1, 5, 2⟩ : DCall)]) 5) ([1, 3])) ?_ ?_ ?_
  · intro hb24 hk
    simp only [Bool.and_eq_true, beq_iff_eq] at hb24
    refine o_unguard 50 rfl rfl ?_
    refine o_pure (p_move (v := .slice a12 (Flight.active ([(⟨1, 0, 5⟩ : DCall), (⟨2, 1, 9⟩ : DCall), (⟨1, 4, 7⟩ : DCall), (⟨1, 5, 2⟩ : DCall)]) 5).length c13) rfl) rfl rfl rfl ?_
    refine o_unguard 50 rfl rfl ?_
    refine o_buildSlice (m := 2) (T := tInt) (L := [1, 3]) (vs := [.int .i64 1, .int .i64 3]) rfl rfl rfl rfl Try.underlying38 sz3 (by decide) ze3 rfl (by decide) rfl (fun S25 a26 => ?_)
    refine o_unguard 50 rfl rfl ?_
    refine o_call0 (v := .bool (Ref.sameInts (Flight.active ([(⟨1, 0, 5⟩ : DCall), (⟨2, 1, 9⟩ : DCall), (⟨1, 4, 7⟩ : DCall), (⟨1, 5, 2⟩ : DCall)]) 5) ([1, 3]))) rfl (sameInts_ok (Flight.active ([(⟨1, 0, 5⟩ : DCall), (⟨2, 1, 9⟩ : DCall), (⟨1, 4, 7⟩ : DCall), (⟨1, 5, 2⟩ : DCall)]) 5) a12 c13 ([1, 3]) a26 ([1, 3].length)) hf31 (fun w hw => ⟨(rd_own (i := 2) rfl) w hw, (rd_own (i := 0) rfl) w hw⟩) rfl ?_
    refine o_pure (p_pick_true (u := .bool (Ref.sameInts (Flight.active ([(⟨1, 0, 5⟩ : DCall), (⟨2, 1, 9⟩ : DCall), (⟨1, 4, 7⟩ : DCall), (⟨1, 5, 2⟩ : DCall)]) 5) ([1, 3]))) rfl rfl) rfl rfl rfl ?_
    exact o_sub (Sub.cons rfl (Sub.skip rfl (Sub.skip rfl (Sub.skip rfl (Sub.skip rfl (Sub.skip rfl (Sub.refl _))))))) (o_drop (List.Sublist.cons _ (List.Sublist.cons_cons _ (List.Sublist.cons_cons _ (List.Sublist.cons_cons _ (List.Sublist.cons_cons _ (List.Sublist.cons_cons _ (List.Sublist.slnil))))))) hk)
  · intro hb24 hk
    refine o_guard_no rfl 50 rfl rfl rfl rfl rfl ?_
    refine o_guard_no rfl 50 rfl rfl rfl rfl rfl ?_
    refine o_guard_no rfl 50 rfl rfl rfl rfl rfl ?_
    refine o_pure (p_pick_false (v := .bool false) rfl rfl) rfl rfl rfl ?_
    exact o_sub (Sub.cons rfl (Sub.skip rfl (Sub.skip rfl (Sub.skip rfl (Sub.skip rfl (Sub.skip rfl (Sub.refl _))))))) hk
  refine o_pure (p_move (v := .bool ((((((Ref.sameInts (Flight.who ([(⟨1, 0, 5⟩ : DCall), (⟨2, 1, 9⟩ : DCall), (⟨1, 4, 7⟩ : DCall), (⟨1, 5, 2⟩ : DCall)])) ([0, 1, 0, 3])) && (Ref.sameInts (Flight.when_ ([(⟨1, 0, 5⟩ : DCall), (⟨2, 1, 9⟩ : DCall), (⟨1, 4, 7⟩ : DCall), (⟨1, 5, 2⟩ : DCall)])) ([5, 10, 5, 7]))) && ((Flight.check ([(⟨1, 0, 5⟩ : DCall), (⟨2, 1, 9⟩ : DCall), (⟨1, 4, 7⟩ : DCall), (⟨1, 5, 2⟩ : DCall)])) == 0)) && ((Flight.loads ([(⟨1, 0, 5⟩ : DCall), (⟨2, 1, 9⟩ : DCall), (⟨1, 4, 7⟩ : DCall), (⟨1, 5, 2⟩ : DCall)])) == 3)) && ((Flight.check ([(⟨1, 0, 5⟩ : DCall), (⟨2, 1, 9⟩ : DCall), (⟨1, 4, 7⟩ : DCall), (⟨1, 5, 2⟩ : DCall)])) == 0)) && (Ref.sameInts (Flight.active ([(⟨1, 0, 5⟩ : DCall), (⟨2, 1, 9⟩ : DCall), (⟨1, 4, 7⟩ : DCall), (⟨1, 5, 2⟩ : DCall)]) 5) ([1, 3])))) rfl) rfl rfl rfl ?_
  refine o_and (p := 58) 3 ((Flight.activeErr ([(⟨1, 0, 5⟩ : DCall), (⟨2, 1, 9⟩ : DCall), (⟨1, 4, 7⟩ : DCall), (⟨1, 5, 2⟩ : DCall)]) 5) == 0) ?_ ?_ ?_
  · intro hb28 hk
    simp only [Bool.and_eq_true, beq_iff_eq] at hb28
    refine o_unguard 55 rfl rfl ?_
    refine o_pure (p_move (v := .int .i64 (Flight.activeErr ([(⟨1, 0, 5⟩ : DCall), (⟨2, 1, 9⟩ : DCall), (⟨1, 4, 7⟩ : DCall), (⟨1, 5, 2⟩ : DCall)]) 5)) rfl) rfl rfl rfl ?_
    refine o_unguard 55 rfl rfl ?_
    refine o_pure (p_eq (p := (Flight.activeErr ([(⟨1, 0, 5⟩ : DCall), (⟨2, 1, 9⟩ : DCall), (⟨1, 4, 7⟩ : DCall), (⟨1, 5, 2⟩ : DCall)]) 5)) (q := 0) rfl rfl) rfl rfl rfl ?_
    refine o_pure (p_pick_true (u := .bool ((Flight.activeErr ([(⟨1, 0, 5⟩ : DCall), (⟨2, 1, 9⟩ : DCall), (⟨1, 4, 7⟩ : DCall), (⟨1, 5, 2⟩ : DCall)]) 5) == 0)) rfl rfl) rfl rfl rfl ?_
    exact o_sub (Sub.cons rfl (Sub.skip rfl (Sub.skip rfl (Sub.skip rfl (Sub.skip rfl (Sub.refl _)))))) hk
  · intro hb28 hk
    refine o_guard_no rfl 55 rfl rfl rfl rfl rfl ?_
    refine o_guard_no rfl 55 rfl rfl rfl rfl rfl ?_
    refine o_pure (p_pick_false (v := .bool false) rfl rfl) rfl rfl rfl ?_
    exact o_sub (Sub.cons rfl (Sub.skip rfl (Sub.skip rfl (Sub.skip rfl (Sub.skip rfl (Sub.refl _)))))) hk
  refine o_pure (p_move (v := .bool (((((((Ref.sameInts (Flight.who ([(⟨1, 0, 5⟩ : DCall), (⟨2, 1, 9⟩ : DCall), (⟨1, 4, 7⟩ : DCall), (⟨1, 5, 2⟩ : DCall)])) ([0, 1, 0, 3])) && (Ref.sameInts (Flight.when_ ([(⟨1, 0, 5⟩ : DCall), (⟨2, 1, 9⟩ : DCall), (⟨1, 4, 7⟩ : DCall), (⟨1, 5, 2⟩ : DCall)])) ([5, 10, 5, 7]))) && ((Flight.check ([(⟨1, 0, 5⟩ : DCall), (⟨2, 1, 9⟩ : DCall), (⟨1, 4, 7⟩ : DCall), (⟨1, 5, 2⟩ : DCall)])) == 0)) && ((Flight.loads ([(⟨1, 0, 5⟩ : DCall), (⟨2, 1, 9⟩ : DCall), (⟨1, 4, 7⟩ : DCall), (⟨1, 5, 2⟩ : DCall)])) == 3)) && ((Flight.check ([(⟨1, 0, 5⟩ : DCall), (⟨2, 1, 9⟩ : DCall), (⟨1, 4, 7⟩ : DCall), (⟨1, 5, 2⟩ : DCall)])) == 0)) && (Ref.sameInts (Flight.active ([(⟨1, 0, 5⟩ : DCall), (⟨2, 1, 9⟩ : DCall), (⟨1, 4, 7⟩ : DCall), (⟨1, 5, 2⟩ : DCall)]) 5) ([1, 3]))) && ((Flight.activeErr ([(⟨1, 0, 5⟩ : DCall), (⟨2, 1, 9⟩ : DCall), (⟨1, 4, 7⟩ : DCall), (⟨1, 5, 2⟩ : DCall)]) 5) == 0))) rfl) rfl rfl rfl ?_
  refine o_and (p := 65) 6 ((Flight.check ([(⟨0, 1, 1⟩ : DCall), (⟨0, 0, 1⟩ : DCall)])) == 4) ?_ ?_ ?_
  · intro hb29 hk
    simp only [Bool.and_eq_true, beq_iff_eq] at hb29
    refine o_unguard 59 rfl rfl ?_
    refine o_pure (p_build (cells := [.int .i64 0, .int .i64 1, .int .i64 1]) fp47 ze47 rfl rfl) rfl rfl rfl ?_
    refine o_unguard 59 rfl rfl ?_
    refine o_pure (p_build (cells := [.int .i64 0, .int .i64 0, .int .i64 1]) fp47 ze47 rfl rfl) rfl rfl rfl ?_
    refine o_unguard 59 rfl rfl ?_
    refine o_buildSlice (m := 2) (T := tCall) (L := [(⟨0, 1, 1⟩ : DCall), (⟨0, 0, 1⟩ : DCall)]) (vs := [.agg #[.int .i64 0, .int .i64 1, .int .i64 1], .agg #[.int .i64 0, .int .i64 0, .int .i64 1]]) rfl rfl rfl rfl Try.underlying37 sz47 (by decide) ze47 rfl (by decide) rfl (fun S30 a31 => ?_)
    refine o_unguard 59 rfl rfl ?_
    refine o_call0 (v := .int .i64 (Flight.check ([(⟨0, 1, 1⟩ : DCall), (⟨0, 0, 1⟩ : DCall)]))) rfl (check_ok ([(⟨0, 1, 1⟩ : DCall), (⟨0, 0, 1⟩ : DCall)]) a31 ([(⟨0, 1, 1⟩ : DCall), (⟨0, 0, 1⟩ : DCall)].length)) hf30 (fun w hw => (rd_own (i := 0) rfl) w hw) rfl ?_
    refine o_unguard 59 rfl rfl ?_
    refine o_pure (p_eq (p := (Flight.check ([(⟨0, 1, 1⟩ : DCall), (⟨0, 0, 1⟩ : DCall)]))) (q := 4) rfl rfl) rfl rfl rfl ?_
    refine o_pure (p_pick_true (u := .bool ((Flight.check ([(⟨0, 1, 1⟩ : DCall), (⟨0, 0, 1⟩ : DCall)])) == 4)) rfl rfl) rfl rfl rfl ?_
    exact o_sub (Sub.cons rfl (Sub.skip rfl (Sub.skip rfl (Sub.skip rfl (Sub.skip rfl (Sub.skip rfl (Sub.skip rfl (Sub.skip rfl (Sub.refl _))))))))) (o_drop (List.Sublist.cons _ (List.Sublist.cons_cons _ (List.Sublist.cons_cons _ (List.Sublist.cons_cons _ (List.Sublist.cons_cons _ (List.Sublist.cons_cons _ (List.Sublist.slnil))))))) hk)
  · intro hb29 hk
    refine o_guard_no rfl 59 rfl rfl rfl rfl rfl ?_
    refine o_guard_no rfl 59 rfl rfl rfl rfl rfl ?_
    refine o_guard_no rfl 59 rfl rfl rfl rfl rfl ?_
    refine o_guard_no rfl 59 rfl rfl rfl rfl rfl ?_
    refine o_guard_no rfl 59 rfl rfl rfl rfl rfl ?_
    refine o_pure (p_pick_false (v := .bool false) rfl rfl) rfl rfl rfl ?_
    exact o_sub (Sub.cons rfl (Sub.skip rfl (Sub.skip rfl (Sub.skip rfl (Sub.skip rfl (Sub.skip rfl (Sub.skip rfl (Sub.skip rfl (Sub.refl _))))))))) hk
  refine o_pure (p_assign (v := .bool ((((((((Ref.sameInts (Flight.who ([(⟨1, 0, 5⟩ : DCall), (⟨2, 1, 9⟩ : DCall), (⟨1, 4, 7⟩ : DCall), (⟨1, 5, 2⟩ : DCall)])) ([0, 1, 0, 3])) && (Ref.sameInts (Flight.when_ ([(⟨1, 0, 5⟩ : DCall), (⟨2, 1, 9⟩ : DCall), (⟨1, 4, 7⟩ : DCall), (⟨1, 5, 2⟩ : DCall)])) ([5, 10, 5, 7]))) && ((Flight.check ([(⟨1, 0, 5⟩ : DCall), (⟨2, 1, 9⟩ : DCall), (⟨1, 4, 7⟩ : DCall), (⟨1, 5, 2⟩ : DCall)])) == 0)) && ((Flight.loads ([(⟨1, 0, 5⟩ : DCall), (⟨2, 1, 9⟩ : DCall), (⟨1, 4, 7⟩ : DCall), (⟨1, 5, 2⟩ : DCall)])) == 3)) && ((Flight.check ([(⟨1, 0, 5⟩ : DCall), (⟨2, 1, 9⟩ : DCall), (⟨1, 4, 7⟩ : DCall), (⟨1, 5, 2⟩ : DCall)])) == 0)) && (Ref.sameInts (Flight.active ([(⟨1, 0, 5⟩ : DCall), (⟨2, 1, 9⟩ : DCall), (⟨1, 4, 7⟩ : DCall), (⟨1, 5, 2⟩ : DCall)]) 5) ([1, 3]))) && ((Flight.activeErr ([(⟨1, 0, 5⟩ : DCall), (⟨2, 1, 9⟩ : DCall), (⟨1, 4, 7⟩ : DCall), (⟨1, 5, 2⟩ : DCall)]) 5) == 0)) && ((Flight.check ([(⟨0, 1, 1⟩ : DCall), (⟨0, 0, 1⟩ : DCall)])) == 4))) rfl) rfl rfl rfl ?_
  refine o_nil ?_
  refine q_then ?_
  refine c_ret ?_
  refine q_end0 (v := .bool ((((((((Ref.sameInts (Flight.who ([(⟨1, 0, 5⟩ : DCall), (⟨2, 1, 9⟩ : DCall), (⟨1, 4, 7⟩ : DCall), (⟨1, 5, 2⟩ : DCall)])) ([0, 1, 0, 3])) && (Ref.sameInts (Flight.when_ ([(⟨1, 0, 5⟩ : DCall), (⟨2, 1, 9⟩ : DCall), (⟨1, 4, 7⟩ : DCall), (⟨1, 5, 2⟩ : DCall)])) ([5, 10, 5, 7]))) && ((Flight.check ([(⟨1, 0, 5⟩ : DCall), (⟨2, 1, 9⟩ : DCall), (⟨1, 4, 7⟩ : DCall), (⟨1, 5, 2⟩ : DCall)])) == 0)) && ((Flight.loads ([(⟨1, 0, 5⟩ : DCall), (⟨2, 1, 9⟩ : DCall), (⟨1, 4, 7⟩ : DCall), (⟨1, 5, 2⟩ : DCall)])) == 3)) && ((Flight.check ([(⟨1, 0, 5⟩ : DCall), (⟨2, 1, 9⟩ : DCall), (⟨1, 4, 7⟩ : DCall), (⟨1, 5, 2⟩ : DCall)])) == 0)) && (Ref.sameInts (Flight.active ([(⟨1, 0, 5⟩ : DCall), (⟨2, 1, 9⟩ : DCall), (⟨1, 4, 7⟩ : DCall), (⟨1, 5, 2⟩ : DCall)]) 5) ([1, 3]))) && ((Flight.activeErr ([(⟨1, 0, 5⟩ : DCall), (⟨2, 1, 9⟩ : DCall), (⟨1, 4, 7⟩ : DCall), (⟨1, 5, 2⟩ : DCall)]) 5) == 0)) && ((Flight.check ([(⟨0, 1, 1⟩ : DCall), (⟨0, 0, 1⟩ : DCall)])) == 4))) (rt1 rfl (r_tmp rfl)) (i := 4) rfl ?_
  first | rfl | decide +kernel
end Go.Proofs.Ythbfdhphnofacaa
