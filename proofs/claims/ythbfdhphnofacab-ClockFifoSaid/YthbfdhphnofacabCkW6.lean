/- The walks, printed by a program from the translation and a specification. -/
import Derived.Test.YthbfdhphnofacabCkF
import Derived.Test.YthbfdhphnofacabCkLaw
import Derived.Test.YthbfdhphnofacabCkW4
import Derived.Test.YthbfdhphnofacabCkW5
namespace Go.Proofs.Ythbfdhphnofacab
open Go.Sx Go.RowKit
set_option maxHeartbeats 8000000 in
set_option maxRecDepth 100000 in
theorem clockBegun_ok  : Fn0 Try.prog 44 [] (fun _ => True) (.bool true) := by
  refine fn0 (nt := 98) (F0 := []) Try.func44 rfl Try.ntmps44 rfl rfl (fun w0 hpre => ?_)
  refine c_seq ?_
  refine c_region ?_
  refine o_pure (p_assign (v := .bool false) rfl) rfl rfl rfl ?_
  refine o_nil ?_
  refine q_then ?_
  refine c_seq ?_
  refine c_region ?_
  refine o_pure (p_build (cells := [.int .i64 2, .int .i64 0, .slice none 0 0]) fp59 ze59 rfl rfl) rfl rfl rfl ?_
  refine o_buildSlice (m := 4) (T := tInt) (L := [1, 2, 1, 3]) (vs := [.int .i64 1, .int .i64 2, .int .i64 1, .int .i64 3]) rfl rfl rfl rfl Try.underlying22 sz3 (by decide) ze3 rfl (by decide) rfl (fun S1 a2 => ?_)
  refine o_callM rfl (run_ok (⟨2, 0, []⟩ : DClock) none 0 ([1, 2, 1, 3]) a2 ([1, 2, 1, 3].length)) hf38 (fun w hw => ⟨rd_nil w hw, (rd_own (i := 0) rfl) w hw⟩) rfl (fun _ _ _ _ ha hA => SlO.agree ha hA) ?_
  rintro ⟨a6, c7⟩ S4
  refine o_pure (p_move (v := .tuple #[.agg #[.int .i64 (((Clock.run (⟨2, 0, []⟩ : DClock) ([1, 2, 1, 3])).1).room), .int .i64 (((Clock.run (⟨2, 0, []⟩ : DClock) ([1, 2, 1, 3])).1).hand), .slice a6 (((Clock.run (⟨2, 0, []⟩ : DClock) ([1, 2, 1, 3])).1).frames).length c7], .int .i64 ((Clock.run (⟨2, 0, []⟩ : DClock) ([1, 2, 1, 3])).2), .int .i64 (Clock.runErr (⟨2, 0, []⟩ : DClock) ([1, 2, 1, 3]))]) rfl) rfl rfl rfl ?_
  refine o_pure (p_extract (vs := [.agg #[.int .i64 (((Clock.run (⟨2, 0, []⟩ : DClock) ([1, 2, 1, 3])).1).room), .int .i64 (((Clock.run (⟨2, 0, []⟩ : DClock) ([1, 2, 1, 3])).1).hand), .slice a6 (((Clock.run (⟨2, 0, []⟩ : DClock) ([1, 2, 1, 3])).1).frames).length c7], .int .i64 ((Clock.run (⟨2, 0, []⟩ : DClock) ([1, 2, 1, 3])).2), .int .i64 (Clock.runErr (⟨2, 0, []⟩ : DClock) ([1, 2, 1, 3]))]) (v := .agg #[.int .i64 (((Clock.run (⟨2, 0, []⟩ : DClock) ([1, 2, 1, 3])).1).room), .int .i64 (((Clock.run (⟨2, 0, []⟩ : DClock) ([1, 2, 1, 3])).1).hand), .slice a6 (((Clock.run (⟨2, 0, []⟩ : DClock) ([1, 2, 1, 3])).1).frames).length c7]) rfl rfl) rfl rfl rfl ?_
  refine o_pure (p_extract (vs := [.agg #[.int .i64 (((Clock.run (⟨2, 0, []⟩ : DClock) ([1, 2, 1, 3])).1).room), .int .i64 (((Clock.run (⟨2, 0, []⟩ : DClock) ([1, 2, 1, 3])).1).hand), .slice a6 (((Clock.run (⟨2, 0, []⟩ : DClock) ([1, 2, 1, 3])).1).frames).length c7], .int .i64 ((Clock.run (⟨2, 0, []⟩ : DClock) ([1, 2, 1, 3])).2), .int .i64 (Clock.runErr (⟨2, 0, []⟩ : DClock) ([1, 2, 1, 3]))]) (v := .int .i64 ((Clock.run (⟨2, 0, []⟩ : DClock) ([1, 2, 1, 3])).2)) rfl rfl) rfl rfl rfl ?_
  refine o_pure (p_extract (vs := [.agg #[.int .i64 (((Clock.run (⟨2, 0, []⟩ : DClock) ([1, 2, 1, 3])).1).room), .int .i64 (((Clock.run (⟨2, 0, []⟩ : DClock) ([1, 2, 1, 3])).1).hand), .slice a6 (((Clock.run (⟨2, 0, []⟩ : DClock) ([1, 2, 1, 3])).1).frames).length c7], .int .i64 ((Clock.run (⟨2, 0, []⟩ : DClock) ([1, 2, 1, 3])).2), .int .i64 (Clock.runErr (⟨2, 0, []⟩ : DClock) ([1, 2, 1, 3]))]) (v := .int .i64 (Clock.runErr (⟨2, 0, []⟩ : DClock) ([1, 2, 1, 3]))) rfl rfl) rfl rfl rfl ?_
  refine o_alloc ze59 rfl (fun B8 => ?_)
  refine o_storeN (i := 0) (vs := [.int .i64 (((Clock.run (⟨2, 0, []⟩ : DClock) ([1, 2, 1, 3])).1).room), .int .i64 (((Clock.run (⟨2, 0, []⟩ : DClock) ([1, 2, 1, 3])).1).hand), .slice a6 (((Clock.run (⟨2, 0, []⟩ : DClock) ([1, 2, 1, 3])).1).frames).length c7]) (cs' := [.int .i64 (((Clock.run (⟨2, 0, []⟩ : DClock) ([1, 2, 1, 3])).1).room), .int .i64 (((Clock.run (⟨2, 0, []⟩ : DClock) ([1, 2, 1, 3])).1).hand), .slice a6 (((Clock.run (⟨2, 0, []⟩ : DClock) ([1, 2, 1, 3])).1).frames).length c7]) rfl rfl rfl sz59 rfl rfl rfl rfl ?_
  refine o_pure (p_assign (v := .int .i64 ((Clock.run (⟨2, 0, []⟩ : DClock) ([1, 2, 1, 3])).2)) rfl) rfl rfl rfl ?_
  refine o_pure (p_assign (v := .int .i64 (Clock.runErr (⟨2, 0, []⟩ : DClock) ([1, 2, 1, 3]))) rfl) rfl rfl rfl ?_
  refine o_nil ?_
  refine q_then ?_
  refine c_seq ?_
  refine c_region ?_
  refine o_pure (p_load_agg (i := 0) (vs := [.int .i64 (((Clock.run (⟨2, 0, []⟩ : DClock) ([1, 2, 1, 3])).1).room), .int .i64 (((Clock.run (⟨2, 0, []⟩ : DClock) ([1, 2, 1, 3])).1).hand), .slice a6 (((Clock.run (⟨2, 0, []⟩ : DClock) ([1, 2, 1, 3])).1).frames).length c7]) rfl rfl sh59 rfl rfl) rfl rfl rfl ?_
  refine o_callM rfl (access_ok ((Clock.run (⟨2, 0, []⟩ : DClock) ([1, 2, 1, 3])).1) a6 c7 (4 : Int)) hf37 (fun w hw => (rd_own (i := 1) rfl) w hw) rfl (fun _ _ _ _ ha hA => SlO.agree ha hA) ?_
  rintro ⟨a11, c12⟩ S9
  refine o_pure (p_move (v := .tuple #[.agg #[.int .i64 (((Clock.access ((Clock.run (⟨2, 0, []⟩ : DClock) ([1, 2, 1, 3])).1) (4 : Int)).1).room), .int .i64 (((Clock.access ((Clock.run (⟨2, 0, []⟩ : DClock) ([1, 2, 1, 3])).1) (4 : Int)).1).hand), .slice a11 (((Clock.access ((Clock.run (⟨2, 0, []⟩ : DClock) ([1, 2, 1, 3])).1) (4 : Int)).1).frames).length c12], .bool ((Clock.access ((Clock.run (⟨2, 0, []⟩ : DClock) ([1, 2, 1, 3])).1) (4 : Int)).2.1), .int .i64 ((Clock.access ((Clock.run (⟨2, 0, []⟩ : DClock) ([1, 2, 1, 3])).1) (4 : Int)).2.2), .int .i64 (Clock.accessErr ((Clock.run (⟨2, 0, []⟩ : DClock) ([1, 2, 1, 3])).1) (4 : Int))]) rfl) rfl rfl rfl ?_
  refine o_pure (p_extract (vs := [.agg #[.int .i64 (((Clock.access ((Clock.run (⟨2, 0, []⟩ : DClock) ([1, 2, 1, 3])).1) (4 : Int)).1).room), .int .i64 (((Clock.access ((Clock.run (⟨2, 0, []⟩ : DClock) ([1, 2, 1, 3])).1) (4 : Int)).1).hand), .slice a11 (((Clock.access ((Clock.run (⟨2, 0, []⟩ : DClock) ([1, 2, 1, 3])).1) (4 : Int)).1).frames).length c12], .bool ((Clock.access ((Clock.run (⟨2, 0, []⟩ : DClock) ([1, 2, 1, 3])).1) (4 : Int)).2.1), .int .i64 ((Clock.access ((Clock.run (⟨2, 0, []⟩ : DClock) ([1, 2, 1, 3])).1) (4 : Int)).2.2), .int .i64 (Clock.accessErr ((Clock.run (⟨2, 0, []⟩ : DClock) ([1, 2, 1, 3])).1) (4 : Int))]) (v := .agg #[.int .i64 (((Clock.access ((Clock.run (⟨2, 0, []⟩ : DClock) ([1, 2, 1, 3])).1) (4 : Int)).1).room), .int .i64 (((Clock.access ((Clock.run (⟨2, 0, []⟩ : DClock) ([1, 2, 1, 3])).1) (4 : Int)).1).hand), .slice a11 (((Clock.access ((Clock.run (⟨2, 0, []⟩ : DClock) ([1, 2, 1, 3])).1) (4 : Int)).1).frames).length c12]) rfl rfl) rfl rfl rfl ?_
  refine o_pure (p_extract (vs := [.agg #[.int .i64 (((Clock.access ((Clock.run (⟨2, 0, []⟩ : DClock) ([1, 2, 1, 3])).1) (4 : Int)).1).room), .int .i64 (((Clock.access ((Clock.run (⟨2, 0, []⟩ : DClock) ([1, 2, 1, 3])).1) (4 : Int)).1).hand), .slice a11 (((Clock.access ((Clock.run (⟨2, 0, []⟩ : DClock) ([1, 2, 1, 3])).1) (4 : Int)).1).frames).length c12], .bool ((Clock.access ((Clock.run (⟨2, 0, []⟩ : DClock) ([1, 2, 1, 3])).1) (4 : Int)).2.1), .int .i64 ((Clock.access ((Clock.run (⟨2, 0, []⟩ : DClock) ([1, 2, 1, 3])).1) (4 : Int)).2.2), .int .i64 (Clock.accessErr ((Clock.run (⟨2, 0, []⟩ : DClock) ([1, 2, 1, 3])).1) (4 : Int))]) (v := .bool ((Clock.access ((Clock.run (⟨2, 0, []⟩ : DClock) ([1, 2, 1, 3])).1) (4 : Int)).2.1)) rfl rfl) rfl rfl rfl ?_
  refine o_pure (p_extract (vs := [.agg #[.int .i64 (((Clock.access ((Clock.run (⟨2, 0, []⟩ : DClock) ([1, 2, 1, 3])).1) (4 : Int)).1).room), .int .i64 (((Clock.access ((Clock.run (⟨2, 0, []⟩ : DClock) ([1, 2, 1, 3])).1) (4 : Int)).1).hand), .slice a11 (((Clock.access ((Clock.run (⟨2, 0, []⟩ : DClock) ([1, 2, 1, 3])).1) (4 : Int)).1).frames).length c12], .bool ((Clock.access ((Clock.run (⟨2, 0, []⟩ : DClock) ([1, 2, 1, 3])).1) (4 : Int)).2.1), .int .i64 ((Clock.access ((Clock.run (⟨2, 0, []⟩ : DClock) ([1, 2, 1, 3])).1) (4 : Int)).2.2), .int .i64 (Clock.accessErr ((Clock.run (⟨2, 0, []⟩ : DClock) ([1, 2, 1, 3])).1) (4 : Int))]) (v := .int .i64 ((Clock.access ((Clock.run (⟨2, 0, []⟩ : DClock) ([1, 2, 1, 3])).1) (4 : Int)).2.2)) rfl rfl) rfl rfl rfl ?_
  refine o_pure (p_extract (vs := [.agg #[.int .i64 (((Clock.access ((Clock.run (⟨2, 0, []⟩ : DClock) ([1, 2, 1, 3])).1) (4 : Int)).1).room), .int .i64 (((Clock.access ((Clock.run (⟨2, 0, []⟩ : DClock) ([1, 2, 1, 3])).1) (4 : Int)).1).hand), .slice a11 (((Clock.access ((Clock.run (⟨2, 0, []⟩ : DClock) ([1, 2, 1, 3])).1) (4 : Int)).1).frames).length c12], .bool ((Clock.access ((Clock.run (⟨2, 0, []⟩ : DClock) ([1, 2, 1, 3])).1) (4 : Int)).2.1), .int .i64 ((Clock.access ((Clock.run (⟨2, 0, []⟩ : DClock) ([1, 2, 1, 3])).1) (4 : Int)).2.2), .int .i64 (Clock.accessErr ((Clock.run (⟨2, 0, []⟩ : DClock) ([1, 2, 1, 3])).1) (4 : Int))]) (v := .int .i64 (Clock.accessErr ((Clock.run (⟨2, 0, []⟩ : DClock) ([1, 2, 1, 3])).1) (4 : Int))) rfl rfl) rfl rfl rfl ?_
  refine o_alloc ze59 rfl (fun B13 => ?_)
  refine o_storeN (i := 0) (vs := [.int .i64 (((Clock.access ((Clock.run (⟨2, 0, []⟩ : DClock) ([1, 2, 1, 3])).1) (4 : Int)).1).room), .int .i64 (((Clock.access ((Clock.run (⟨2, 0, []⟩ : DClock) ([1, 2, 1, 3])).1) (4 : Int)).1).hand), .slice a11 (((Clock.access ((Clock.run (⟨2, 0, []⟩ : DClock) ([1, 2, 1, 3])).1) (4 : Int)).1).frames).length c12]) (cs' := [.int .i64 (((Clock.access ((Clock.run (⟨2, 0, []⟩ : DClock) ([1, 2, 1, 3])).1) (4 : Int)).1).room), .int .i64 (((Clock.access ((Clock.run (⟨2, 0, []⟩ : DClock) ([1, 2, 1, 3])).1) (4 : Int)).1).hand), .slice a11 (((Clock.access ((Clock.run (⟨2, 0, []⟩ : DClock) ([1, 2, 1, 3])).1) (4 : Int)).1).frames).length c12]) rfl rfl rfl sz59 rfl rfl rfl rfl ?_
  refine o_pure (p_assign (v := .bool ((Clock.access ((Clock.run (⟨2, 0, []⟩ : DClock) ([1, 2, 1, 3])).1) (4 : Int)).2.1)) rfl) rfl rfl rfl ?_
  refine o_pure (p_assign (v := .int .i64 ((Clock.access ((Clock.run (⟨2, 0, []⟩ : DClock) ([1, 2, 1, 3])).1) (4 : Int)).2.2)) rfl) rfl rfl rfl ?_
  refine o_pure (p_assign (v := .int .i64 (Clock.accessErr ((Clock.run (⟨2, 0, []⟩ : DClock) ([1, 2, 1, 3])).1) (4 : Int))) rfl) rfl rfl rfl ?_
  refine o_nil ?_
  refine q_then ?_
  refine c_seq ?_
  refine c_region ?_
  refine o_pure (p_build (cells := [.int .i64 5, .bool true]) fp73 ze73 rfl rfl) rfl rfl rfl ?_
  refine o_buildSlice (m := 1) (T := tFrame) (L := [(⟨5, true⟩ : DFrame)]) (vs := [.agg #[.int .i64 5, .bool true]]) rfl rfl rfl rfl Try.underlying57 sz73 (by decide) ze73 rfl (by decide) rfl (fun S14 a15 => ?_)
  refine o_pure (p_build (cells := [.int .i64 1, .int .i64 0, .slice a15 ([(⟨5, true⟩ : DFrame)]).length ([(⟨5, true⟩ : DFrame)].length)]) fp59 ze59 rfl rfl) rfl rfl rfl ?_
  refine o_callM rfl (clear__ok (⟨1, 0, [(⟨5, true⟩ : DFrame)]⟩ : DClock) a15 ([(⟨5, true⟩ : DFrame)].length)) hf39 (fun w hw => (rd_own (i := 0) rfl) w hw) rfl (fun _ _ _ _ ha hA => SlO.agree ha hA) ?_
  rintro ⟨a19, c20⟩ S17
  refine o_pure (p_move (v := .tuple #[.agg #[.int .i64 ((Clock.clear (⟨1, 0, [(⟨5, true⟩ : DFrame)]⟩ : DClock)).room), .int .i64 ((Clock.clear (⟨1, 0, [(⟨5, true⟩ : DFrame)]⟩ : DClock)).hand), .slice a19 ((Clock.clear (⟨1, 0, [(⟨5, true⟩ : DFrame)]⟩ : DClock)).frames).length c20], .int .i64 (Clock.check (⟨1, 0, [(⟨5, true⟩ : DFrame)]⟩ : DClock))]) rfl) rfl rfl rfl ?_
  refine o_pure (p_extract (vs := [.agg #[.int .i64 ((Clock.clear (⟨1, 0, [(⟨5, true⟩ : DFrame)]⟩ : DClock)).room), .int .i64 ((Clock.clear (⟨1, 0, [(⟨5, true⟩ : DFrame)]⟩ : DClock)).hand), .slice a19 ((Clock.clear (⟨1, 0, [(⟨5, true⟩ : DFrame)]⟩ : DClock)).frames).length c20], .int .i64 (Clock.check (⟨1, 0, [(⟨5, true⟩ : DFrame)]⟩ : DClock))]) (v := .agg #[.int .i64 ((Clock.clear (⟨1, 0, [(⟨5, true⟩ : DFrame)]⟩ : DClock)).room), .int .i64 ((Clock.clear (⟨1, 0, [(⟨5, true⟩ : DFrame)]⟩ : DClock)).hand), .slice a19 ((Clock.clear (⟨1, 0, [(⟨5, true⟩ : DFrame)]⟩ : DClock)).frames).length c20]) rfl rfl) rfl rfl rfl ?_
  refine o_pure (p_extract (vs := [.agg #[.int .i64 ((Clock.clear (⟨1, 0, [(⟨5, true⟩ : DFrame)]⟩ : DClock)).room), .int .i64 ((Clock.clear (⟨1, 0, [(⟨5, true⟩ : DFrame)]⟩ : DClock)).hand), .slice a19 ((Clock.clear (⟨1, 0, [(⟨5, true⟩ : DFrame)]⟩ : DClock)).frames).length c20], .int .i64 (Clock.check (⟨1, 0, [(⟨5, true⟩ : DFrame)]⟩ : DClock))]) (v := .int .i64 (Clock.check (⟨1, 0, [(⟨5, true⟩ : DFrame)]⟩ : DClock))) rfl rfl) rfl rfl rfl ?_
  refine o_alloc ze59 rfl (fun B21 => ?_)
  refine o_storeN (i := 0) (vs := [.int .i64 ((Clock.clear (⟨1, 0, [(⟨5, true⟩ : DFrame)]⟩ : DClock)).room), .int .i64 ((Clock.clear (⟨1, 0, [(⟨5, true⟩ : DFrame)]⟩ : DClock)).hand), .slice a19 ((Clock.clear (⟨1, 0, [(⟨5, true⟩ : DFrame)]⟩ : DClock)).frames).length c20]) (cs' := [.int .i64 ((Clock.clear (⟨1, 0, [(⟨5, true⟩ : DFrame)]⟩ : DClock)).room), .int .i64 ((Clock.clear (⟨1, 0, [(⟨5, true⟩ : DFrame)]⟩ : DClock)).hand), .slice a19 ((Clock.clear (⟨1, 0, [(⟨5, true⟩ : DFrame)]⟩ : DClock)).frames).length c20]) rfl rfl rfl sz59 rfl rfl rfl rfl ?_
  refine o_pure (p_assign (v := .int .i64 (Clock.check (⟨1, 0, [(⟨5, true⟩ : DFrame)]⟩ : DClock))) rfl) rfl rfl rfl ?_
  refine o_nil ?_
  refine q_then ?_
  refine c_seq ?_
  refine c_region ?_
  refine o_pure (p_load_agg (i := 5) (vs := [.int .i64 (((Clock.run (⟨2, 0, []⟩ : DClock) ([1, 2, 1, 3])).1).room), .int .i64 (((Clock.run (⟨2, 0, []⟩ : DClock) ([1, 2, 1, 3])).1).hand), .slice a6 (((Clock.run (⟨2, 0, []⟩ : DClock) ([1, 2, 1, 3])).1).frames).length c7]) rfl rfl sh59 rfl rfl) rfl rfl rfl ?_
  refine o_callM rfl (access_ok ((Clock.run (⟨2, 0, []⟩ : DClock) ([1, 2, 1, 3])).1) a6 c7 ((-1) : Int)) hf37 (fun w hw => (rd_own (i := 6) rfl) w hw) rfl (fun _ _ _ _ ha hA => SlO.agree ha hA) ?_
  rintro ⟨a24, c25⟩ S22
  refine o_pure (p_move (v := .tuple #[.agg #[.int .i64 (((Clock.access ((Clock.run (⟨2, 0, []⟩ : DClock) ([1, 2, 1, 3])).1) ((-1) : Int)).1).room), .int .i64 (((Clock.access ((Clock.run (⟨2, 0, []⟩ : DClock) ([1, 2, 1, 3])).1) ((-1) : Int)).1).hand), .slice a24 (((Clock.access ((Clock.run (⟨2, 0, []⟩ : DClock) ([1, 2, 1, 3])).1) ((-1) : Int)).1).frames).length c25], .bool ((Clock.access ((Clock.run (⟨2, 0, []⟩ : DClock) ([1, 2, 1, 3])).1) ((-1) : Int)).2.1), .int .i64 ((Clock.access ((Clock.run (⟨2, 0, []⟩ : DClock) ([1, 2, 1, 3])).1) ((-1) : Int)).2.2), .int .i64 (Clock.accessErr ((Clock.run (⟨2, 0, []⟩ : DClock) ([1, 2, 1, 3])).1) ((-1) : Int))]) rfl) rfl rfl rfl ?_
  refine o_pure (p_extract (vs := [.agg #[.int .i64 (((Clock.access ((Clock.run (⟨2, 0, []⟩ : DClock) ([1, 2, 1, 3])).1) ((-1) : Int)).1).room), .int .i64 (((Clock.access ((Clock.run (⟨2, 0, []⟩ : DClock) ([1, 2, 1, 3])).1) ((-1) : Int)).1).hand), .slice a24 (((Clock.access ((Clock.run (⟨2, 0, []⟩ : DClock) ([1, 2, 1, 3])).1) ((-1) : Int)).1).frames).length c25], .bool ((Clock.access ((Clock.run (⟨2, 0, []⟩ : DClock) ([1, 2, 1, 3])).1) ((-1) : Int)).2.1), .int .i64 ((Clock.access ((Clock.run (⟨2, 0, []⟩ : DClock) ([1, 2, 1, 3])).1) ((-1) : Int)).2.2), .int .i64 (Clock.accessErr ((Clock.run (⟨2, 0, []⟩ : DClock) ([1, 2, 1, 3])).1) ((-1) : Int))]) (v := .agg #[.int .i64 (((Clock.access ((Clock.run (⟨2, 0, []⟩ : DClock) ([1, 2, 1, 3])).1) ((-1) : Int)).1).room), .int .i64 (((Clock.access ((Clock.run (⟨2, 0, []⟩ : DClock) ([1, 2, 1, 3])).1) ((-1) : Int)).1).hand), .slice a24 (((Clock.access ((Clock.run (⟨2, 0, []⟩ : DClock) ([1, 2, 1, 3])).1) ((-1) : Int)).1).frames).length c25]) rfl rfl) rfl rfl rfl ?_
  refine o_pure (p_extract (vs := [.agg #[.int .i64 (((Clock.access ((Clock.run (⟨2, 0, []⟩ : DClock) ([1, 2, 1, 3])).1) ((-1) : Int)).1).room), .int .i64 (((Clock.access ((Clock.run (⟨2, 0, []⟩ : DClock) ([1, 2, 1, 3])).1) ((-1) : Int)).1).hand), .slice a24 (((Clock.access ((Clock.run (⟨2, 0, []⟩ : DClock) ([1, 2, 1, 3])).1) ((-1) : Int)).1).frames).length c25], .bool ((Clock.access ((Clock.run (⟨2, 0, []⟩ : DClock) ([1, 2, 1, 3])).1) ((-1) : Int)).2.1), .int .i64 ((Clock.access ((Clock.run (⟨2, 0, []⟩ : DClock) ([1, 2, 1, 3])).1) ((-1) : Int)).2.2), .int .i64 (Clock.accessErr ((Clock.run (⟨2, 0, []⟩ : DClock) ([1, 2, 1, 3])).1) ((-1) : Int))]) (v := .bool ((Clock.access ((Clock.run (⟨2, 0, []⟩ : DClock) ([1, 2, 1, 3])).1) ((-1) : Int)).2.1)) rfl rfl) rfl rfl rfl ?_
  refine o_pure (p_extract (vs := [.agg #[.int .i64 (((Clock.access ((Clock.run (⟨2, 0, []⟩ : DClock) ([1, 2, 1, 3])).1) ((-1) : Int)).1).room), .int .i64 (((Clock.access ((Clock.run (⟨2, 0, []⟩ : DClock) ([1, 2, 1, 3])).1) ((-1) : Int)).1).hand), .slice a24 (((Clock.access ((Clock.run (⟨2, 0, []⟩ : DClock) ([1, 2, 1, 3])).1) ((-1) : Int)).1).frames).length c25], .bool ((Clock.access ((Clock.run (⟨2, 0, []⟩ : DClock) ([1, 2, 1, 3])).1) ((-1) : Int)).2.1), .int .i64 ((Clock.access ((Clock.run (⟨2, 0, []⟩ : DClock) ([1, 2, 1, 3])).1) ((-1) : Int)).2.2), .int .i64 (Clock.accessErr ((Clock.run (⟨2, 0, []⟩ : DClock) ([1, 2, 1, 3])).1) ((-1) : Int))]) (v := .int .i64 ((Clock.access ((Clock.run (⟨2, 0, []⟩ : DClock) ([1, 2, 1, 3])).1) ((-1) : Int)).2.2)) rfl rfl) rfl rfl rfl ?_
  refine o_pure (p_extract (vs := [.agg #[.int .i64 (((Clock.access ((Clock.run (⟨2, 0, []⟩ : DClock) ([1, 2, 1, 3])).1) ((-1) : Int)).1).room), .int .i64 (((Clock.access ((Clock.run (⟨2, 0, []⟩ : DClock) ([1, 2, 1, 3])).1) ((-1) : Int)).1).hand), .slice a24 (((Clock.access ((Clock.run (⟨2, 0, []⟩ : DClock) ([1, 2, 1, 3])).1) ((-1) : Int)).1).frames).length c25], .bool ((Clock.access ((Clock.run (⟨2, 0, []⟩ : DClock) ([1, 2, 1, 3])).1) ((-1) : Int)).2.1), .int .i64 ((Clock.access ((Clock.run (⟨2, 0, []⟩ : DClock) ([1, 2, 1, 3])).1) ((-1) : Int)).2.2), .int .i64 (Clock.accessErr ((Clock.run (⟨2, 0, []⟩ : DClock) ([1, 2, 1, 3])).1) ((-1) : Int))]) (v := .int .i64 (Clock.accessErr ((Clock.run (⟨2, 0, []⟩ : DClock) ([1, 2, 1, 3])).1) ((-1) : Int))) rfl rfl) rfl rfl rfl ?_
  refine o_alloc ze59 rfl (fun B26 => ?_)
  refine o_storeN (i := 0) (vs := [.int .i64 (((Clock.access ((Clock.run (⟨2, 0, []⟩ : DClock) ([1, 2, 1, 3])).1) ((-1) : Int)).1).room), .int .i64 (((Clock.access ((Clock.run (⟨2, 0, []⟩ : DClock) ([1, 2, 1, 3])).1) ((-1) : Int)).1).hand), .slice a24 (((Clock.access ((Clock.run (⟨2, 0, []⟩ : DClock) ([1, 2, 1, 3])).1) ((-1) : Int)).1).frames).length c25]) (cs' := [.int .i64 (((Clock.access ((Clock.run (⟨2, 0, []⟩ : DClock) ([1, 2, 1, 3])).1) ((-1) : Int)).1).room), .int .i64 (((Clock.access ((Clock.run (⟨2, 0, []⟩ : DClock) ([1, 2, 1, 3])).1) ((-1) : Int)).1).hand), .slice a24 (((Clock.access ((Clock.run (⟨2, 0, []⟩ : DClock) ([1, 2, 1, 3])).1) ((-1) : Int)).1).frames).length c25]) rfl rfl rfl sz59 rfl rfl rfl rfl ?_
  refine o_pure (p_assign (v := .bool ((Clock.access ((Clock.run (⟨2, 0, []⟩ : DClock) ([1, 2, 1, 3])).1) ((-1) : Int)).2.1)) rfl) rfl rfl rfl ?_
  refine o_pure (p_assign (v := .int .i64 ((Clock.access ((Clock.run (⟨2, 0, []⟩ : DClock) ([1, 2, 1, 3])).1) ((-1) : Int)).2.2)) rfl) rfl rfl rfl ?_
  refine o_pure (p_assign (v := .int .i64 (Clock.accessErr ((Clock.run (⟨2, 0, []⟩ : DClock) ([1, 2, 1, 3])).1) ((-1) : Int))) rfl) rfl rfl rfl ?_
  refine o_nil ?_
  refine q_then ?_
  refine c_seq ?_
  refine c_region ?_
  refine o_pure (p_move (v := .int .i64 ((Clock.run (⟨2, 0, []⟩ : DClock) ([1, 2, 1, 3])).2)) rfl) rfl rfl rfl ?_
  refine o_pure (p_eq (p := ((Clock.run (⟨2, 0, []⟩ : DClock) ([1, 2, 1, 3])).2)) (q := 1) rfl rfl) rfl rfl rfl ?_
  refine o_pure (p_move (v := .bool (((Clock.run (⟨2, 0, []⟩ : DClock) ([1, 2, 1, 3])).2) == 1)) rfl) rfl rfl rfl ?_
  refine o_and (p := 47) 3 ((Clock.runErr (⟨2, 0, []⟩ : DClock) ([1, 2, 1, 3])) == 0) ?_ ?_ ?_
  · intro hb27 hk
    simp only [beq_iff_eq] at hb27
    refine o_unguard 44 rfl rfl ?_
    refine o_pure (p_move (v := .int .i64 (Clock.runErr (⟨2, 0, []⟩ : DClock) ([1, 2, 1, 3]))) rfl) rfl rfl rfl ?_
    refine o_unguard 44 rfl rfl ?_
    refine o_pure (p_eq (p := (Clock.runErr (⟨2, 0, []⟩ : DClock) ([1, 2, 1, 3]))) (q := 0) rfl rfl) rfl rfl rfl ?_
    refine o_pure (p_pick_true (u := .bool ((Clock.runErr (⟨2, 0, []⟩ : DClock) ([1, 2, 1, 3])) == 0)) rfl rfl) rfl rfl rfl ?_
    exact o_sub (Sub.cons rfl (Sub.skip rfl (Sub.skip rfl (Sub.skip rfl (Sub.skip rfl (Sub.refl _)))))) hk
  · intro hb27 hk
    refine o_guard_no rfl 44 rfl rfl rfl rfl rfl ?_
    refine o_guard_no rfl 44 rfl rfl rfl rfl rfl ?_
    refine o_pure (p_pick_false (v := .bool false) rfl rfl) rfl rfl rfl ?_
    exact o_sub (Sub.cons rfl (Sub.skip rfl (Sub.skip rfl (Sub.skip rfl (Sub.skip rfl (Sub.refl _)))))) hk
  refine o_pure (p_move (v := .bool ((((Clock.run (⟨2, 0, []⟩ : DClock) ([1, 2, 1, 3])).2) == 1) && ((Clock.runErr (⟨2, 0, []⟩ : DClock) ([1, 2, 1, 3])) == 0))) rfl) rfl rfl rfl ?_
  refine o_and (p := 55) 7 (decide (((Clock.run (⟨2, 0, []⟩ : DClock) ([1, 2, 1, 3])).1) = (⟨2, 0, [(⟨1, false⟩ : DFrame), (⟨3, false⟩ : DFrame)]⟩ : DClock))) ?_ ?_ ?_
  · intro hb28 hk
    simp only [Bool.and_eq_true, beq_iff_eq] at hb28
    refine o_unguard 48 rfl rfl ?_
    refine o_pure (p_load_agg (i := 7) (vs := [.int .i64 (((Clock.run (⟨2, 0, []⟩ : DClock) ([1, 2, 1, 3])).1).room), .int .i64 (((Clock.run (⟨2, 0, []⟩ : DClock) ([1, 2, 1, 3])).1).hand), .slice a6 (((Clock.run (⟨2, 0, []⟩ : DClock) ([1, 2, 1, 3])).1).frames).length c7]) rfl rfl sh59 rfl rfl) rfl rfl rfl ?_
    refine o_unguard 48 rfl rfl ?_
    refine o_pure (p_build (cells := [.int .i64 1, .bool false]) fp73 ze73 rfl rfl) rfl rfl rfl ?_
    refine o_unguard 48 rfl rfl ?_
    refine o_pure (p_build (cells := [.int .i64 3, .bool false]) fp73 ze73 rfl rfl) rfl rfl rfl ?_
    refine o_unguard 48 rfl rfl ?_
    refine o_buildSlice (m := 2) (T := tFrame) (L := [(⟨1, false⟩ : DFrame), (⟨3, false⟩ : DFrame)]) (vs := [.agg #[.int .i64 1, .bool false], .agg #[.int .i64 3, .bool false]]) rfl rfl rfl rfl Try.underlying57 sz73 (by decide) ze73 rfl (by decide) rfl (fun S29 a30 => ?_)
    refine o_unguard 48 rfl rfl ?_
    refine o_pure (p_build (cells := [.int .i64 2, .int .i64 0, .slice a30 ([(⟨1, false⟩ : DFrame), (⟨3, false⟩ : DFrame)]).length ([(⟨1, false⟩ : DFrame), (⟨3, false⟩ : DFrame)].length)]) fp59 ze59 rfl rfl) rfl rfl rfl ?_
    refine o_unguard 48 rfl rfl ?_
    refine o_call0 (v := .bool (decide (((Clock.run (⟨2, 0, []⟩ : DClock) ([1, 2, 1, 3])).1) = (⟨2, 0, [(⟨1, false⟩ : DFrame), (⟨3, false⟩ : DFrame)]⟩ : DClock)))) rfl (sameClock_ok ((Clock.run (⟨2, 0, []⟩ : DClock) ([1, 2, 1, 3])).1) a6 c7 (⟨2, 0, [(⟨1, false⟩ : DFrame), (⟨3, false⟩ : DFrame)]⟩ : DClock) a30 ([(⟨1, false⟩ : DFrame), (⟨3, false⟩ : DFrame)].length)) hf46 (fun w hw => ⟨(rd_own (i := 9) rfl) w hw, (rd_own (i := 0) rfl) w hw⟩) rfl ?_
    refine o_pure (p_pick_true (u := .bool (decide (((Clock.run (⟨2, 0, []⟩ : DClock) ([1, 2, 1, 3])).1) = (⟨2, 0, [(⟨1, false⟩ : DFrame), (⟨3, false⟩ : DFrame)]⟩ : DClock)))) rfl rfl) rfl rfl rfl ?_
    exact o_sub (Sub.cons rfl (Sub.skip rfl (Sub.skip rfl (Sub.skip rfl (Sub.skip rfl (Sub.skip rfl (Sub.skip rfl (Sub.skip rfl (Sub.skip rfl (Sub.refl _)))))))))) (o_drop (List.Sublist.cons _ (List.Sublist.cons_cons _ (List.Sublist.cons_cons _ (List.Sublist.cons_cons _ (List.Sublist.cons_cons _ (List.Sublist.cons_cons _ (List.Sublist.cons_cons _ (List.Sublist.cons_cons _ (List.Sublist.cons_cons _ (List.Sublist.cons_cons _ (List.Sublist.cons_cons _ (List.Sublist.cons_cons _ (List.Sublist.slnil))))))))))))) hk)
  · intro hb28 hk
    refine o_guard_no rfl 48 rfl rfl rfl rfl rfl ?_
    refine o_guard_no rfl 48 rfl rfl rfl rfl rfl ?_
    refine o_guard_no rfl 48 rfl rfl rfl rfl rfl ?_
    refine o_guard_no rfl 48 rfl rfl rfl rfl rfl ?_
    refine o_guard_no rfl 48 rfl rfl rfl rfl rfl ?_
    refine o_guard_no rfl 48 rfl rfl rfl rfl rfl ?_
    refine o_pure (p_pick_false (v := .bool false) rfl rfl) rfl rfl rfl ?_
    exact o_sub (Sub.cons rfl (Sub.skip rfl (Sub.skip rfl (Sub.skip rfl (Sub.skip rfl (Sub.skip rfl (Sub.skip rfl (Sub.skip rfl (Sub.skip rfl (Sub.refl _)))))))))) hk
  refine o_pure (p_move (v := .bool (((((Clock.run (⟨2, 0, []⟩ : DClock) ([1, 2, 1, 3])).2) == 1) && ((Clock.runErr (⟨2, 0, []⟩ : DClock) ([1, 2, 1, 3])) == 0)) && (decide (((Clock.run (⟨2, 0, []⟩ : DClock) ([1, 2, 1, 3])).1) = (⟨2, 0, [(⟨1, false⟩ : DFrame), (⟨3, false⟩ : DFrame)]⟩ : DClock))))) rfl) rfl rfl rfl ?_
  refine o_and (p := 59) 3 (!((Clock.access ((Clock.run (⟨2, 0, []⟩ : DClock) ([1, 2, 1, 3])).1) (4 : Int)).2.1)) ?_ ?_ ?_
  · intro hb32 hk
    simp only [Bool.and_eq_true, beq_iff_eq, decide_eq_true_eq] at hb32
    refine o_unguard 56 rfl rfl ?_
    refine o_pure (p_move (v := .bool ((Clock.access ((Clock.run (⟨2, 0, []⟩ : DClock) ([1, 2, 1, 3])).1) (4 : Int)).2.1)) rfl) rfl rfl rfl ?_
    refine o_unguard 56 rfl rfl ?_
    refine o_pure (p_not (b := ((Clock.access ((Clock.run (⟨2, 0, []⟩ : DClock) ([1, 2, 1, 3])).1) (4 : Int)).2.1)) rfl) rfl rfl rfl ?_
    refine o_pure (p_pick_true (u := .bool (!((Clock.access ((Clock.run (⟨2, 0, []⟩ : DClock) ([1, 2, 1, 3])).1) (4 : Int)).2.1))) rfl rfl) rfl rfl rfl ?_
    exact o_sub (Sub.cons rfl (Sub.skip rfl (Sub.skip rfl (Sub.skip rfl (Sub.skip rfl (Sub.refl _)))))) hk
  · intro hb32 hk
    refine o_guard_no rfl 56 rfl rfl rfl rfl rfl ?_
    refine o_guard_no rfl 56 rfl rfl rfl rfl rfl ?_
    refine o_pure (p_pick_false (v := .bool false) rfl rfl) rfl rfl rfl ?_
    exact o_sub (Sub.cons rfl (Sub.skip rfl (Sub.skip rfl (Sub.skip rfl (Sub.skip rfl (Sub.refl _)))))) hk
  refine o_pure (p_move (v := .bool ((((((Clock.run (⟨2, 0, []⟩ : DClock) ([1, 2, 1, 3])).2) == 1) && ((Clock.runErr (⟨2, 0, []⟩ : DClock) ([1, 2, 1, 3])) == 0)) && (decide (((Clock.run (⟨2, 0, []⟩ : DClock) ([1, 2, 1, 3])).1) = (⟨2, 0, [(⟨1, false⟩ : DFrame), (⟨3, false⟩ : DFrame)]⟩ : DClock)))) && (!((Clock.access ((Clock.run (⟨2, 0, []⟩ : DClock) ([1, 2, 1, 3])).1) (4 : Int)).2.1)))) rfl) rfl rfl rfl ?_
  refine o_and (p := 63) 3 (((Clock.access ((Clock.run (⟨2, 0, []⟩ : DClock) ([1, 2, 1, 3])).1) (4 : Int)).2.2) == 1) ?_ ?_ ?_
  · intro hb33 hk
    simp only [Bool.and_eq_true, beq_iff_eq, decide_eq_true_eq, Bool.not_eq_true'] at hb33
    refine o_unguard 60 rfl rfl ?_
    refine o_pure (p_move (v := .int .i64 ((Clock.access ((Clock.run (⟨2, 0, []⟩ : DClock) ([1, 2, 1, 3])).1) (4 : Int)).2.2)) rfl) rfl rfl rfl ?_
    refine o_unguard 60 rfl rfl ?_
    refine o_pure (p_eq (p := ((Clock.access ((Clock.run (⟨2, 0, []⟩ : DClock) ([1, 2, 1, 3])).1) (4 : Int)).2.2)) (q := 1) rfl rfl) rfl rfl rfl ?_
    refine o_pure (p_pick_true (u := .bool (((Clock.access ((Clock.run (⟨2, 0, []⟩ : DClock) ([1, 2, 1, 3])).1) (4 : Int)).2.2) == 1)) rfl rfl) rfl rfl rfl ?_
    exact o_sub (Sub.cons rfl (Sub.skip rfl (Sub.skip rfl (Sub.skip rfl (Sub.skip rfl (Sub.refl _)))))) hk
  · intro hb33 hk
    refine o_guard_no rfl 60 rfl rfl rfl rfl rfl ?_
    refine o_guard_no rfl 60 rfl rfl rfl rfl rfl ?_
    refine o_pure (p_pick_false (v := .bool false) rfl rfl) rfl rfl rfl ?_
    exact o_sub (Sub.cons rfl (Sub.skip rfl (Sub.skip rfl (Sub.skip rfl (Sub.skip rfl (Sub.refl _)))))) hk
  refine o_pure (p_move (v := .bool (((((((Clock.run (⟨2, 0, []⟩ : DClock) ([1, 2, 1, 3])).2) == 1) && ((Clock.runErr (⟨2, 0, []⟩ : DClock) ([1, 2, 1, 3])) == 0)) && (decide (((Clock.run (⟨2, 0, []⟩ : DClock) ([1, 2, 1, 3])).1) = (⟨2, 0, [(⟨1, false⟩ : DFrame), (⟨3, false⟩ : DFrame)]⟩ : DClock)))) && (!((Clock.access ((Clock.run (⟨2, 0, []⟩ : DClock) ([1, 2, 1, 3])).1) (4 : Int)).2.1))) && (((Clock.access ((Clock.run (⟨2, 0, []⟩ : DClock) ([1, 2, 1, 3])).1) (4 : Int)).2.2) == 1))) rfl) rfl rfl rfl ?_
  refine o_and (p := 67) 3 ((Clock.accessErr ((Clock.run (⟨2, 0, []⟩ : DClock) ([1, 2, 1, 3])).1) (4 : Int)) == 0) ?_ ?_ ?_
  · intro hb34 hk
    simp only [Bool.and_eq_true, beq_iff_eq, decide_eq_true_eq, Bool.not_eq_true'] at hb34
    refine o_unguard 64 rfl rfl ?_
    refine o_pure (p_move (v := .int .i64 (Clock.accessErr ((Clock.run (⟨2, 0, []⟩ : DClock) ([1, 2, 1, 3])).1) (4 : Int))) rfl) rfl rfl rfl ?_
    refine o_unguard 64 rfl rfl ?_
    refine o_pure (p_eq (p := (Clock.accessErr ((Clock.run (⟨2, 0, []⟩ : DClock) ([1, 2, 1, 3])).1) (4 : Int))) (q := 0) rfl rfl) rfl rfl rfl ?_
    refine o_pure (p_pick_true (u := .bool ((Clock.accessErr ((Clock.run (⟨2, 0, []⟩ : DClock) ([1, 2, 1, 3])).1) (4 : Int)) == 0)) rfl rfl) rfl rfl rfl ?_
    exact o_sub (Sub.cons rfl (Sub.skip rfl (Sub.skip rfl (Sub.skip rfl (Sub.skip rfl (Sub.refl _)))))) hk
  · intro hb34 hk
    refine o_guard_no rfl 64 rfl rfl rfl rfl rfl ?_
    refine o_guard_no rfl 64 rfl rfl rfl rfl rfl ?_
    refine o_pure (p_pick_false (v := .bool false) rfl rfl) rfl rfl rfl ?_
    exact o_sub (Sub.cons rfl (Sub.skip rfl (Sub.skip rfl (Sub.skip rfl (Sub.skip rfl (Sub.refl _)))))) hk
  refine o_pure (p_move (v := .bool ((((((((Clock.run (⟨2, 0, []⟩ : DClock) ([1, 2, 1, 3])).2) == 1) && ((Clock.runErr (⟨2, 0, []⟩ : DClock) ([1, 2, 1, 3])) == 0)) && (decide (((Clock.run (⟨2, 0, []⟩ : DClock) ([1, 2, 1, 3])).1) = (⟨2, 0, [(⟨1, false⟩ : DFrame), (⟨3, false⟩ : DFrame)]⟩ : DClock)))) && (!((Clock.access ((Clock.run (⟨2, 0, []⟩ : DClock) ([1, 2, 1, 3])).1) (4 : Int)).2.1))) && (((Clock.access ((Clock.run (⟨2, 0, []⟩ : DClock) ([1, 2, 1, 3])).1) (4 : Int)).2.2) == 1)) && ((Clock.accessErr ((Clock.run (⟨2, 0, []⟩ : DClock) ([1, 2, 1, 3])).1) (4 : Int)) == 0))) rfl) rfl rfl rfl ?_
  refine o_and (p := 72) 4 (((Clock.access ((Clock.run (⟨2, 0, []⟩ : DClock) ([1, 2, 1, 3])).1) (4 : Int)).1).hand == 1) ?_ ?_ ?_
  · intro hb35 hk
    simp only [Bool.and_eq_true, beq_iff_eq, decide_eq_true_eq, Bool.not_eq_true'] at hb35
    refine o_unguard 68 rfl rfl ?_
    refine o_pure (p_fieldAddr (B := B13) (j := 0) (j' := 1) rfl fo59_1 rfl) rfl rfl rfl ?_
    refine o_unguard 68 rfl rfl ?_
    refine o_pure (p_load (i := 5) (v := .int .i64 (((Clock.access ((Clock.run (⟨2, 0, []⟩ : DClock) ([1, 2, 1, 3])).1) (4 : Int)).1).hand)) rfl rfl sh3 rfl) rfl rfl rfl ?_
    refine o_unguard 68 rfl rfl ?_
    refine o_pure (p_eq (p := ((Clock.access ((Clock.run (⟨2, 0, []⟩ : DClock) ([1, 2, 1, 3])).1) (4 : Int)).1).hand) (q := 1) rfl rfl) rfl rfl rfl ?_
    refine o_pure (p_pick_true (u := .bool (((Clock.access ((Clock.run (⟨2, 0, []⟩ : DClock) ([1, 2, 1, 3])).1) (4 : Int)).1).hand == 1)) rfl rfl) rfl rfl rfl ?_
    exact o_sub (Sub.cons rfl (Sub.skip rfl (Sub.skip rfl (Sub.skip rfl (Sub.skip rfl (Sub.skip rfl (Sub.refl _))))))) hk
  · intro hb35 hk
    refine o_guard_no rfl 68 rfl rfl rfl rfl rfl ?_
    refine o_guard_no rfl 68 rfl rfl rfl rfl rfl ?_
    refine o_guard_no rfl 68 rfl rfl rfl rfl rfl ?_
    refine o_pure (p_pick_false (v := .bool false) rfl rfl) rfl rfl rfl ?_
    exact o_sub (Sub.cons rfl (Sub.skip rfl (Sub.skip rfl (Sub.skip rfl (Sub.skip rfl (Sub.skip rfl (Sub.refl _))))))) hk
  refine o_pure (p_move (v := .bool (((((((((Clock.run (⟨2, 0, []⟩ : DClock) ([1, 2, 1, 3])).2) == 1) && ((Clock.runErr (⟨2, 0, []⟩ : DClock) ([1, 2, 1, 3])) == 0)) && (decide (((Clock.run (⟨2, 0, []⟩ : DClock) ([1, 2, 1, 3])).1) = (⟨2, 0, [(⟨1, false⟩ : DFrame), (⟨3, false⟩ : DFrame)]⟩ : DClock)))) && (!((Clock.access ((Clock.run (⟨2, 0, []⟩ : DClock) ([1, 2, 1, 3])).1) (4 : Int)).2.1))) && (((Clock.access ((Clock.run (⟨2, 0, []⟩ : DClock) ([1, 2, 1, 3])).1) (4 : Int)).2.2) == 1)) && ((Clock.accessErr ((Clock.run (⟨2, 0, []⟩ : DClock) ([1, 2, 1, 3])).1) (4 : Int)) == 0)) && (((Clock.access ((Clock.run (⟨2, 0, []⟩ : DClock) ([1, 2, 1, 3])).1) (4 : Int)).1).hand == 1))) rfl) rfl rfl rfl ?_
  refine o_and (p := 79) 6 (decide ((Clock.clear (⟨1, 0, [(⟨5, true⟩ : DFrame)]⟩ : DClock)) = (⟨1, 0, [(⟨5, false⟩ : DFrame)]⟩ : DClock))) ?_ ?_ ?_
  · intro hb36 hk
    simp only [Bool.and_eq_true, beq_iff_eq, decide_eq_true_eq, Bool.not_eq_true'] at hb36
    refine o_unguard 73 rfl rfl ?_
    refine o_pure (p_load_agg (i := 2) (vs := [.int .i64 ((Clock.clear (⟨1, 0, [(⟨5, true⟩ : DFrame)]⟩ : DClock)).room), .int .i64 ((Clock.clear (⟨1, 0, [(⟨5, true⟩ : DFrame)]⟩ : DClock)).hand), .slice a19 ((Clock.clear (⟨1, 0, [(⟨5, true⟩ : DFrame)]⟩ : DClock)).frames).length c20]) rfl rfl sh59 rfl rfl) rfl rfl rfl ?_
    refine o_unguard 73 rfl rfl ?_
    refine o_pure (p_build (cells := [.int .i64 5, .bool false]) fp73 ze73 rfl rfl) rfl rfl rfl ?_
    refine o_unguard 73 rfl rfl ?_
    refine o_buildSlice (m := 1) (T := tFrame) (L := [(⟨5, false⟩ : DFrame)]) (vs := [.agg #[.int .i64 5, .bool false]]) rfl rfl rfl rfl Try.underlying57 sz73 (by decide) ze73 rfl (by decide) rfl (fun S37 a38 => ?_)
    refine o_unguard 73 rfl rfl ?_
    refine o_pure (p_build (cells := [.int .i64 1, .int .i64 0, .slice a38 ([(⟨5, false⟩ : DFrame)]).length ([(⟨5, false⟩ : DFrame)].length)]) fp59 ze59 rfl rfl) rfl rfl rfl ?_
    refine o_unguard 73 rfl rfl ?_
    refine o_call0 (v := .bool (decide ((Clock.clear (⟨1, 0, [(⟨5, true⟩ : DFrame)]⟩ : DClock)) = (⟨1, 0, [(⟨5, false⟩ : DFrame)]⟩ : DClock)))) rfl (sameClock_ok (Clock.clear (⟨1, 0, [(⟨5, true⟩ : DFrame)]⟩ : DClock)) a19 c20 (⟨1, 0, [(⟨5, false⟩ : DFrame)]⟩ : DClock) a38 ([(⟨5, false⟩ : DFrame)].length)) hf46 (fun w hw => ⟨(rd_own (i := 4) rfl) w hw, (rd_own (i := 0) rfl) w hw⟩) rfl ?_
    refine o_pure (p_pick_true (u := .bool (decide ((Clock.clear (⟨1, 0, [(⟨5, true⟩ : DFrame)]⟩ : DClock)) = (⟨1, 0, [(⟨5, false⟩ : DFrame)]⟩ : DClock)))) rfl rfl) rfl rfl rfl ?_
    exact o_sub (Sub.cons rfl (Sub.skip rfl (Sub.skip rfl (Sub.skip rfl (Sub.skip rfl (Sub.skip rfl (Sub.skip rfl (Sub.skip rfl (Sub.refl _))))))))) (o_drop (List.Sublist.cons _ (List.Sublist.cons_cons _ (List.Sublist.cons_cons _ (List.Sublist.cons_cons _ (List.Sublist.cons_cons _ (List.Sublist.cons_cons _ (List.Sublist.cons_cons _ (List.Sublist.cons_cons _ (List.Sublist.cons_cons _ (List.Sublist.cons_cons _ (List.Sublist.cons_cons _ (List.Sublist.cons_cons _ (List.Sublist.slnil))))))))))))) hk)
  · intro hb36 hk
    refine o_guard_no rfl 73 rfl rfl rfl rfl rfl ?_
    refine o_guard_no rfl 73 rfl rfl rfl rfl rfl ?_
    refine o_guard_no rfl 73 rfl rfl rfl rfl rfl ?_
    refine o_guard_no rfl 73 rfl rfl rfl rfl rfl ?_
    refine o_guard_no rfl 73 rfl rfl rfl rfl rfl ?_
    refine o_pure (p_pick_false (v := .bool false) rfl rfl) rfl rfl rfl ?_
    exact o_sub (Sub.cons rfl (Sub.skip rfl (Sub.skip rfl (Sub.skip rfl (Sub.skip rfl (Sub.skip rfl (Sub.skip rfl (Sub.skip rfl (Sub.refl _))))))))) hk
  refine o_pure (p_move (v := .bool ((((((((((Clock.run (⟨2, 0, []⟩ : DClock) ([1, 2, 1, 3])).2) == 1) && ((Clock.runErr (⟨2, 0, []⟩ : DClock) ([1, 2, 1, 3])) == 0)) && (decide (((Clock.run (⟨2, 0, []⟩ : DClock) ([1, 2, 1, 3])).1) = (⟨2, 0, [(⟨1, false⟩ : DFrame), (⟨3, false⟩ : DFrame)]⟩ : DClock)))) && (!((Clock.access ((Clock.run (⟨2, 0, []⟩ : DClock) ([1, 2, 1, 3])).1) (4 : Int)).2.1))) && (((Clock.access ((Clock.run (⟨2, 0, []⟩ : DClock) ([1, 2, 1, 3])).1) (4 : Int)).2.2) == 1)) && ((Clock.accessErr ((Clock.run (⟨2, 0, []⟩ : DClock) ([1, 2, 1, 3])).1) (4 : Int)) == 0)) && (((Clock.access ((Clock.run (⟨2, 0, []⟩ : DClock) ([1, 2, 1, 3])).1) (4 : Int)).1).hand == 1)) && (decide ((Clock.clear (⟨1, 0, [(⟨5, true⟩ : DFrame)]⟩ : DClock)) = (⟨1, 0, [(⟨5, false⟩ : DFrame)]⟩ : DClock))))) rfl) rfl rfl rfl ?_
  refine o_and (p := 83) 3 ((Clock.check (⟨1, 0, [(⟨5, true⟩ : DFrame)]⟩ : DClock)) == 0) ?_ ?_ ?_
  · intro hb40 hk
    simp only [Bool.and_eq_true, beq_iff_eq, decide_eq_true_eq, Bool.not_eq_true'] at hb40
    refine o_unguard 80 rfl rfl ?_
    refine o_pure (p_move (v := .int .i64 (Clock.check (⟨1, 0, [(⟨5, true⟩ : DFrame)]⟩ : DClock))) rfl) rfl rfl rfl ?_
    refine o_unguard 80 rfl rfl ?_
    refine o_pure (p_eq (p := (Clock.check (⟨1, 0, [(⟨5, true⟩ : DFrame)]⟩ : DClock))) (q := 0) rfl rfl) rfl rfl rfl ?_
    refine o_pure (p_pick_true (u := .bool ((Clock.check (⟨1, 0, [(⟨5, true⟩ : DFrame)]⟩ : DClock)) == 0)) rfl rfl) rfl rfl rfl ?_
    exact o_sub (Sub.cons rfl (Sub.skip rfl (Sub.skip rfl (Sub.skip rfl (Sub.skip rfl (Sub.refl _)))))) hk
  · intro hb40 hk
    refine o_guard_no rfl 80 rfl rfl rfl rfl rfl ?_
    refine o_guard_no rfl 80 rfl rfl rfl rfl rfl ?_
    refine o_pure (p_pick_false (v := .bool false) rfl rfl) rfl rfl rfl ?_
    exact o_sub (Sub.cons rfl (Sub.skip rfl (Sub.skip rfl (Sub.skip rfl (Sub.skip rfl (Sub.refl _)))))) hk
  refine o_pure (p_move (v := .bool (((((((((((Clock.run (⟨2, 0, []⟩ : DClock) ([1, 2, 1, 3])).2) == 1) && ((Clock.runErr (⟨2, 0, []⟩ : DClock) ([1, 2, 1, 3])) == 0)) && (decide (((Clock.run (⟨2, 0, []⟩ : DClock) ([1, 2, 1, 3])).1) = (⟨2, 0, [(⟨1, false⟩ : DFrame), (⟨3, false⟩ : DFrame)]⟩ : DClock)))) && (!((Clock.access ((Clock.run (⟨2, 0, []⟩ : DClock) ([1, 2, 1, 3])).1) (4 : Int)).2.1))) && (((Clock.access ((Clock.run (⟨2, 0, []⟩ : DClock) ([1, 2, 1, 3])).1) (4 : Int)).2.2) == 1)) && ((Clock.accessErr ((Clock.run (⟨2, 0, []⟩ : DClock) ([1, 2, 1, 3])).1) (4 : Int)) == 0)) && (((Clock.access ((Clock.run (⟨2, 0, []⟩ : DClock) ([1, 2, 1, 3])).1) (4 : Int)).1).hand == 1)) && (decide ((Clock.clear (⟨1, 0, [(⟨5, true⟩ : DFrame)]⟩ : DClock)) = (⟨1, 0, [(⟨5, false⟩ : DFrame)]⟩ : DClock)))) && ((Clock.check (⟨1, 0, [(⟨5, true⟩ : DFrame)]⟩ : DClock)) == 0))) rfl) rfl rfl rfl ?_
  refine o_and (p := 87) 3 ((Clock.accessErr ((Clock.run (⟨2, 0, []⟩ : DClock) ([1, 2, 1, 3])).1) ((-1) : Int)) == 3) ?_ ?_ ?_
  · intro hb41 hk
    simp only [Bool.and_eq_true, beq_iff_eq, decide_eq_true_eq, Bool.not_eq_true'] at hb41
    refine o_unguard 84 rfl rfl ?_
    refine o_pure (p_move (v := .int .i64 (Clock.accessErr ((Clock.run (⟨2, 0, []⟩ : DClock) ([1, 2, 1, 3])).1) ((-1) : Int))) rfl) rfl rfl rfl ?_
    refine o_unguard 84 rfl rfl ?_
    refine o_pure (p_eq (p := (Clock.accessErr ((Clock.run (⟨2, 0, []⟩ : DClock) ([1, 2, 1, 3])).1) ((-1) : Int))) (q := 3) rfl rfl) rfl rfl rfl ?_
    refine o_pure (p_pick_true (u := .bool ((Clock.accessErr ((Clock.run (⟨2, 0, []⟩ : DClock) ([1, 2, 1, 3])).1) ((-1) : Int)) == 3)) rfl rfl) rfl rfl rfl ?_
    exact o_sub (Sub.cons rfl (Sub.skip rfl (Sub.skip rfl (Sub.skip rfl (Sub.skip rfl (Sub.refl _)))))) hk
  · intro hb41 hk
    refine o_guard_no rfl 84 rfl rfl rfl rfl rfl ?_
    refine o_guard_no rfl 84 rfl rfl rfl rfl rfl ?_
    refine o_pure (p_pick_false (v := .bool false) rfl rfl) rfl rfl rfl ?_
    exact o_sub (Sub.cons rfl (Sub.skip rfl (Sub.skip rfl (Sub.skip rfl (Sub.skip rfl (Sub.refl _)))))) hk
  refine o_pure (p_move (v := .bool ((((((((((((Clock.run (⟨2, 0, []⟩ : DClock) ([1, 2, 1, 3])).2) == 1) && ((Clock.runErr (⟨2, 0, []⟩ : DClock) ([1, 2, 1, 3])) == 0)) && (decide (((Clock.run (⟨2, 0, []⟩ : DClock) ([1, 2, 1, 3])).1) = (⟨2, 0, [(⟨1, false⟩ : DFrame), (⟨3, false⟩ : DFrame)]⟩ : DClock)))) && (!((Clock.access ((Clock.run (⟨2, 0, []⟩ : DClock) ([1, 2, 1, 3])).1) (4 : Int)).2.1))) && (((Clock.access ((Clock.run (⟨2, 0, []⟩ : DClock) ([1, 2, 1, 3])).1) (4 : Int)).2.2) == 1)) && ((Clock.accessErr ((Clock.run (⟨2, 0, []⟩ : DClock) ([1, 2, 1, 3])).1) (4 : Int)) == 0)) && (((Clock.access ((Clock.run (⟨2, 0, []⟩ : DClock) ([1, 2, 1, 3])).1) (4 : Int)).1).hand == 1)) && (decide ((Clock.clear (⟨1, 0, [(⟨5, true⟩ : DFrame)]⟩ : DClock)) = (⟨1, 0, [(⟨5, false⟩ : DFrame)]⟩ : DClock)))) && ((Clock.check (⟨1, 0, [(⟨5, true⟩ : DFrame)]⟩ : DClock)) == 0)) && ((Clock.accessErr ((Clock.run (⟨2, 0, []⟩ : DClock) ([1, 2, 1, 3])).1) ((-1) : Int)) == 3))) rfl) rfl rfl rfl ?_
  refine o_and (p := 92) 4 ((Clock.check (⟨0, 0, []⟩ : DClock)) == 3) ?_ ?_ ?_
  · intro hb42 hk
    simp only [Bool.and_eq_true, beq_iff_eq, decide_eq_true_eq, Bool.not_eq_true'] at hb42
    refine o_unguard 88 rfl rfl ?_
    refine o_pure (p_build (cells := [.int .i64 0, .int .i64 0, .slice none 0 0]) fp59 ze59 rfl rfl) rfl rfl rfl ?_
    refine o_unguard 88 rfl rfl ?_
    refine o_call0 (v := .int .i64 (Clock.check (⟨0, 0, []⟩ : DClock))) rfl (ccheck_ok (⟨0, 0, []⟩ : DClock) none 0) hf45 (fun w hw => rd_nil w hw) rfl ?_
    refine o_unguard 88 rfl rfl ?_
    refine o_pure (p_eq (p := (Clock.check (⟨0, 0, []⟩ : DClock))) (q := 3) rfl rfl) rfl rfl rfl ?_
    refine o_pure (p_pick_true (u := .bool ((Clock.check (⟨0, 0, []⟩ : DClock)) == 3)) rfl rfl) rfl rfl rfl ?_
    exact o_sub (Sub.cons rfl (Sub.skip rfl (Sub.skip rfl (Sub.skip rfl (Sub.skip rfl (Sub.skip rfl (Sub.refl _))))))) hk
  · intro hb42 hk
    refine o_guard_no rfl 88 rfl rfl rfl rfl rfl ?_
    refine o_guard_no rfl 88 rfl rfl rfl rfl rfl ?_
    refine o_guard_no rfl 88 rfl rfl rfl rfl rfl ?_
    refine o_pure (p_pick_false (v := .bool false) rfl rfl) rfl rfl rfl ?_
    exact o_sub (Sub.cons rfl (Sub.skip rfl (Sub.skip rfl (Sub.skip rfl (Sub.skip rfl (Sub.skip rfl (Sub.refl _))))))) hk
  refine o_pure (p_move (v := .bool (((((((((((((Clock.run (⟨2, 0, []⟩ : DClock) ([1, 2, 1, 3])).2) == 1) && ((Clock.runErr (⟨2, 0, []⟩ : DClock) ([1, 2, 1, 3])) == 0)) && (decide (((Clock.run (⟨2, 0, []⟩ : DClock) ([1, 2, 1, 3])).1) = (⟨2, 0, [(⟨1, false⟩ : DFrame), (⟨3, false⟩ : DFrame)]⟩ : DClock)))) && (!((Clock.access ((Clock.run (⟨2, 0, []⟩ : DClock) ([1, 2, 1, 3])).1) (4 : Int)).2.1))) && (((Clock.access ((Clock.run (⟨2, 0, []⟩ : DClock) ([1, 2, 1, 3])).1) (4 : Int)).2.2) == 1)) && ((Clock.accessErr ((Clock.run (⟨2, 0, []⟩ : DClock) ([1, 2, 1, 3])).1) (4 : Int)) == 0)) && (((Clock.access ((Clock.run (⟨2, 0, []⟩ : DClock) ([1, 2, 1, 3])).1) (4 : Int)).1).hand == 1)) && (decide ((Clock.clear (⟨1, 0, [(⟨5, true⟩ : DFrame)]⟩ : DClock)) = (⟨1, 0, [(⟨5, false⟩ : DFrame)]⟩ : DClock)))) && ((Clock.check (⟨1, 0, [(⟨5, true⟩ : DFrame)]⟩ : DClock)) == 0)) && ((Clock.accessErr ((Clock.run (⟨2, 0, []⟩ : DClock) ([1, 2, 1, 3])).1) ((-1) : Int)) == 3)) && ((Clock.check (⟨0, 0, []⟩ : DClock)) == 3))) rfl) rfl rfl rfl ?_
  refine o_and (p := 97) 4 ((Clock.check (⟨1, 1, []⟩ : DClock)) == 4) ?_ ?_ ?_
  · intro hb43 hk
    simp only [Bool.and_eq_true, beq_iff_eq, decide_eq_true_eq, Bool.not_eq_true'] at hb43
    refine o_unguard 93 rfl rfl ?_
    refine o_pure (p_build (cells := [.int .i64 1, .int .i64 1, .slice none 0 0]) fp59 ze59 rfl rfl) rfl rfl rfl ?_
    refine o_unguard 93 rfl rfl ?_
    refine o_call0 (v := .int .i64 (Clock.check (⟨1, 1, []⟩ : DClock))) rfl (ccheck_ok (⟨1, 1, []⟩ : DClock) none 0) hf45 (fun w hw => rd_nil w hw) rfl ?_
    refine o_unguard 93 rfl rfl ?_
    refine o_pure (p_eq (p := (Clock.check (⟨1, 1, []⟩ : DClock))) (q := 4) rfl rfl) rfl rfl rfl ?_
    refine o_pure (p_pick_true (u := .bool ((Clock.check (⟨1, 1, []⟩ : DClock)) == 4)) rfl rfl) rfl rfl rfl ?_
    exact o_sub (Sub.cons rfl (Sub.skip rfl (Sub.skip rfl (Sub.skip rfl (Sub.skip rfl (Sub.skip rfl (Sub.refl _))))))) hk
  · intro hb43 hk
    refine o_guard_no rfl 93 rfl rfl rfl rfl rfl ?_
    refine o_guard_no rfl 93 rfl rfl rfl rfl rfl ?_
    refine o_guard_no rfl 93 rfl rfl rfl rfl rfl ?_
    refine o_pure (p_pick_false (v := .bool false) rfl rfl) rfl rfl rfl ?_
    exact o_sub (Sub.cons rfl (Sub.skip rfl (Sub.skip rfl (Sub.skip rfl (Sub.skip rfl (Sub.skip rfl (Sub.refl _))))))) hk
  refine o_pure (p_assign (v := .bool ((((((((((((((Clock.run (⟨2, 0, []⟩ : DClock) ([1, 2, 1, 3])).2) == 1) && ((Clock.runErr (⟨2, 0, []⟩ : DClock) ([1, 2, 1, 3])) == 0)) && (decide (((Clock.run (⟨2, 0, []⟩ : DClock) ([1, 2, 1, 3])).1) = (⟨2, 0, [(⟨1, false⟩ : DFrame), (⟨3, false⟩ : DFrame)]⟩ : DClock)))) && (!((Clock.access ((Clock.run (⟨2, 0, []⟩ : DClock) ([1, 2, 1, 3])).1) (4 : Int)).2.1))) && (((Clock.access ((Clock.run (⟨2, 0, []⟩ : DClock) ([1, 2, 1, 3])).1) (4 : Int)).2.2) == 1)) && ((Clock.accessErr ((Clock.run (⟨2, 0, []⟩ : DClock) ([1, 2, 1, 3])).1) (4 : Int)) == 0)) && (((Clock.access ((Clock.run (⟨2, 0, []⟩ : DClock) ([1, 2, 1, 3])).1) (4 : Int)).1).hand == 1)) && (decide ((Clock.clear (⟨1, 0, [(⟨5, true⟩ : DFrame)]⟩ : DClock)) = (⟨1, 0, [(⟨5, false⟩ : DFrame)]⟩ : DClock)))) && ((Clock.check (⟨1, 0, [(⟨5, true⟩ : DFrame)]⟩ : DClock)) == 0)) && ((Clock.accessErr ((Clock.run (⟨2, 0, []⟩ : DClock) ([1, 2, 1, 3])).1) ((-1) : Int)) == 3)) && ((Clock.check (⟨0, 0, []⟩ : DClock)) == 3)) && ((Clock.check (⟨1, 1, []⟩ : DClock)) == 4))) rfl) rfl rfl rfl ?_
  refine o_nil ?_
  refine q_then ?_
  refine c_ret ?_
  have hr0 : (((((((((((((((Clock.run (⟨2, 0, []⟩ : DClock) ([1, 2, 1, 3])).2) == 1) && ((Clock.runErr (⟨2, 0, []⟩ : DClock) ([1, 2, 1, 3])) == 0)) && (decide (((Clock.run (⟨2, 0, []⟩ : DClock) ([1, 2, 1, 3])).1) = (⟨2, 0, [(⟨1, false⟩ : DFrame), (⟨3, false⟩ : DFrame)]⟩ : DClock)))) && (!((Clock.access ((Clock.run (⟨2, 0, []⟩ : DClock) ([1, 2, 1, 3])).1) (4 : Int)).2.1))) && (((Clock.access ((Clock.run (⟨2, 0, []⟩ : DClock) ([1, 2, 1, 3])).1) (4 : Int)).2.2) == 1)) && ((Clock.accessErr ((Clock.run (⟨2, 0, []⟩ : DClock) ([1, 2, 1, 3])).1) (4 : Int)) == 0)) && (((Clock.access ((Clock.run (⟨2, 0, []⟩ : DClock) ([1, 2, 1, 3])).1) (4 : Int)).1).hand == 1)) && (decide ((Clock.clear (⟨1, 0, [(⟨5, true⟩ : DFrame)]⟩ : DClock)) = (⟨1, 0, [(⟨5, false⟩ : DFrame)]⟩ : DClock)))) && ((Clock.check (⟨1, 0, [(⟨5, true⟩ : DFrame)]⟩ : DClock)) == 0)) && ((Clock.accessErr ((Clock.run (⟨2, 0, []⟩ : DClock) ([1, 2, 1, 3])).1) ((-1) : Int)) == 3)) && ((Clock.check (⟨0, 0, []⟩ : DClock)) == 3)) && ((Clock.check (⟨1, 1, []⟩ : DClock)) == 4)) : Bool) = true := by
    first | rfl | decide +kernel
  refine q_end0 (v := .bool ((((((((((((((Clock.run (⟨2, 0, []⟩ : DClock) ([1, 2, 1, 3])).2) == 1) && ((Clock.runErr (⟨2, 0, []⟩ : DClock) ([1, 2, 1, 3])) == 0)) && (decide (((Clock.run (⟨2, 0, []⟩ : DClock) ([1, 2, 1, 3])).1) = (⟨2, 0, [(⟨1, false⟩ : DFrame), (⟨3, false⟩ : DFrame)]⟩ : DClock)))) && (!((Clock.access ((Clock.run (⟨2, 0, []⟩ : DClock) ([1, 2, 1, 3])).1) (4 : Int)).2.1))) && (((Clock.access ((Clock.run (⟨2, 0, []⟩ : DClock) ([1, 2, 1, 3])).1) (4 : Int)).2.2) == 1)) && ((Clock.accessErr ((Clock.run (⟨2, 0, []⟩ : DClock) ([1, 2, 1, 3])).1) (4 : Int)) == 0)) && (((Clock.access ((Clock.run (⟨2, 0, []⟩ : DClock) ([1, 2, 1, 3])).1) (4 : Int)).1).hand == 1)) && (decide ((Clock.clear (⟨1, 0, [(⟨5, true⟩ : DFrame)]⟩ : DClock)) = (⟨1, 0, [(⟨5, false⟩ : DFrame)]⟩ : DClock)))) && ((Clock.check (⟨1, 0, [(⟨5, true⟩ : DFrame)]⟩ : DClock)) == 0)) && ((Clock.accessErr ((Clock.run (⟨2, 0, []⟩ : DClock) ([1, 2, 1, 3])).1) ((-1) : Int)) == 3)) && ((Clock.check (⟨0, 0, []⟩ : DClock)) == 3)) && ((Clock.check (⟨1, 1, []⟩ : DClock)) == 4))) (rt1 rfl (r_tmp rfl)) (i := 10) rfl ?_
  exact (by have hcc := congrArg (fun (y0 : Bool) => (.bool y0 : Value)) hr0; exact hcc)
end Go.Proofs.Ythbfdhphnofacab
