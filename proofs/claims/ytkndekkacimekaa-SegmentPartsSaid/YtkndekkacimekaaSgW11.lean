/- The walks, printed by a program from the translation and a specification. -/
import Derived.Test.YtkndekkacimekaaSgF
import Derived.Test.YtkndekkacimekaaSgLaw
import Derived.Test.YtkndekkacimekaaSgW8
import Derived.Test.YtkndekkacimekaaSgW9
namespace Go.Proofs.Ytkndekkacimekaa
open Go.Sx Go.RowKit
set_option maxHeartbeats 8000000 in
set_option maxRecDepth 100000 in
theorem hallsBegun_ok  : Fn0 Try.prog 40 [] (fun _ => True) (.bool true) := by
  refine fn0 (nt := 89) (F0 := []) Try.func40 rfl Try.ntmps40 rfl rfl (fun w0 hpre => ?_)
  refine c_seq ?_
  refine c_region ?_
  refine o_pure (p_assign (v := .bool false) rfl) rfl rfl rfl ?_
  refine o_nil ?_
  refine q_then ?_
  refine c_seq ?_
  refine c_region ?_
  refine o_pure (p_build (cells := [.int .i64 2, .int .i64 1, .slice none 0 0, .slice none 0 0]) fp58 ze58 rfl rfl) rfl rfl rfl ?_
  refine o_buildSlice (m := 5) (T := tInt) (L := [1, 2, 1, 3, 4]) (vs := [.int .i64 1, .int .i64 2, .int .i64 1, .int .i64 3, .int .i64 4]) rfl rfl rfl rfl Try.underlying30 sz3 (by decide) ze3 rfl (by decide) rfl (fun S1 a2 => ?_)
  refine o_callM rfl (srun_ok (⟨2, 1, [], []⟩ : DHalls) none 0 none 0 ([1, 2, 1, 3, 4]) a2 ([1, 2, 1, 3, 4].length)) hf34 (fun w hw => ⟨rd_nil w hw, rd_nil w hw, (rd_own (i := 0) rfl) w hw⟩) rfl (fun _ _ _ _ ha hA => ⟨SlR.agree ha hA.1, SlR.agree ha hA.2⟩) ?_
  rintro ⟨a6, c7, a8, c9⟩ S4
  refine o_know (fun w hw => (hw.at (i := 0) rfl).here.1.2.1) (fun hlr10 => ?_)
  refine o_know (fun w hw => (hw.at (i := 0) rfl).here.2.2.1) (fun hlr11 => ?_)
  refine o_pure (p_move (v := .tuple #[.agg #[.int .i64 (((Seg.run (⟨2, 1, [], []⟩ : DHalls) ([1, 2, 1, 3, 4])).1).first), .int .i64 (((Seg.run (⟨2, 1, [], []⟩ : DHalls) ([1, 2, 1, 3, 4])).1).second), .slice a6 (((Seg.run (⟨2, 1, [], []⟩ : DHalls) ([1, 2, 1, 3, 4])).1).young).length c7, .slice a8 (((Seg.run (⟨2, 1, [], []⟩ : DHalls) ([1, 2, 1, 3, 4])).1).old).length c9], .int .i64 ((Seg.run (⟨2, 1, [], []⟩ : DHalls) ([1, 2, 1, 3, 4])).2), .int .i64 (Seg.runErr (⟨2, 1, [], []⟩ : DHalls) ([1, 2, 1, 3, 4]))]) rfl) rfl rfl rfl ?_
  refine o_pure (p_extract (vs := [.agg #[.int .i64 (((Seg.run (⟨2, 1, [], []⟩ : DHalls) ([1, 2, 1, 3, 4])).1).first), .int .i64 (((Seg.run (⟨2, 1, [], []⟩ : DHalls) ([1, 2, 1, 3, 4])).1).second), .slice a6 (((Seg.run (⟨2, 1, [], []⟩ : DHalls) ([1, 2, 1, 3, 4])).1).young).length c7, .slice a8 (((Seg.run (⟨2, 1, [], []⟩ : DHalls) ([1, 2, 1, 3, 4])).1).old).length c9], .int .i64 ((Seg.run (⟨2, 1, [], []⟩ : DHalls) ([1, 2, 1, 3, 4])).2), .int .i64 (Seg.runErr (⟨2, 1, [], []⟩ : DHalls) ([1, 2, 1, 3, 4]))]) (v := .agg #[.int .i64 (((Seg.run (⟨2, 1, [], []⟩ : DHalls) ([1, 2, 1, 3, 4])).1).first), .int .i64 (((Seg.run (⟨2, 1, [], []⟩ : DHalls) ([1, 2, 1, 3, 4])).1).second), .slice a6 (((Seg.run (⟨2, 1, [], []⟩ : DHalls) ([1, 2, 1, 3, 4])).1).young).length c7, .slice a8 (((Seg.run (⟨2, 1, [], []⟩ : DHalls) ([1, 2, 1, 3, 4])).1).old).length c9]) rfl rfl) rfl rfl rfl ?_
  refine o_pure (p_extract (vs := [.agg #[.int .i64 (((Seg.run (⟨2, 1, [], []⟩ : DHalls) ([1, 2, 1, 3, 4])).1).first), .int .i64 (((Seg.run (⟨2, 1, [], []⟩ : DHalls) ([1, 2, 1, 3, 4])).1).second), .slice a6 (((Seg.run (⟨2, 1, [], []⟩ : DHalls) ([1, 2, 1, 3, 4])).1).young).length c7, .slice a8 (((Seg.run (⟨2, 1, [], []⟩ : DHalls) ([1, 2, 1, 3, 4])).1).old).length c9], .int .i64 ((Seg.run (⟨2, 1, [], []⟩ : DHalls) ([1, 2, 1, 3, 4])).2), .int .i64 (Seg.runErr (⟨2, 1, [], []⟩ : DHalls) ([1, 2, 1, 3, 4]))]) (v := .int .i64 ((Seg.run (⟨2, 1, [], []⟩ : DHalls) ([1, 2, 1, 3, 4])).2)) rfl rfl) rfl rfl rfl ?_
  refine o_pure (p_extract (vs := [.agg #[.int .i64 (((Seg.run (⟨2, 1, [], []⟩ : DHalls) ([1, 2, 1, 3, 4])).1).first), .int .i64 (((Seg.run (⟨2, 1, [], []⟩ : DHalls) ([1, 2, 1, 3, 4])).1).second), .slice a6 (((Seg.run (⟨2, 1, [], []⟩ : DHalls) ([1, 2, 1, 3, 4])).1).young).length c7, .slice a8 (((Seg.run (⟨2, 1, [], []⟩ : DHalls) ([1, 2, 1, 3, 4])).1).old).length c9], .int .i64 ((Seg.run (⟨2, 1, [], []⟩ : DHalls) ([1, 2, 1, 3, 4])).2), .int .i64 (Seg.runErr (⟨2, 1, [], []⟩ : DHalls) ([1, 2, 1, 3, 4]))]) (v := .int .i64 (Seg.runErr (⟨2, 1, [], []⟩ : DHalls) ([1, 2, 1, 3, 4]))) rfl rfl) rfl rfl rfl ?_
  refine o_alloc ze58 rfl (fun B12 => ?_)
  refine o_storeN (i := 0) (vs := [.int .i64 (((Seg.run (⟨2, 1, [], []⟩ : DHalls) ([1, 2, 1, 3, 4])).1).first), .int .i64 (((Seg.run (⟨2, 1, [], []⟩ : DHalls) ([1, 2, 1, 3, 4])).1).second), .slice a6 (((Seg.run (⟨2, 1, [], []⟩ : DHalls) ([1, 2, 1, 3, 4])).1).young).length c7, .slice a8 (((Seg.run (⟨2, 1, [], []⟩ : DHalls) ([1, 2, 1, 3, 4])).1).old).length c9]) (cs' := [.int .i64 (((Seg.run (⟨2, 1, [], []⟩ : DHalls) ([1, 2, 1, 3, 4])).1).first), .int .i64 (((Seg.run (⟨2, 1, [], []⟩ : DHalls) ([1, 2, 1, 3, 4])).1).second), .slice a6 (((Seg.run (⟨2, 1, [], []⟩ : DHalls) ([1, 2, 1, 3, 4])).1).young).length c7, .slice a8 (((Seg.run (⟨2, 1, [], []⟩ : DHalls) ([1, 2, 1, 3, 4])).1).old).length c9]) rfl rfl rfl sz58 rfl rfl rfl rfl ?_
  refine o_pure (p_assign (v := .int .i64 ((Seg.run (⟨2, 1, [], []⟩ : DHalls) ([1, 2, 1, 3, 4])).2)) rfl) rfl rfl rfl ?_
  refine o_pure (p_assign (v := .int .i64 (Seg.runErr (⟨2, 1, [], []⟩ : DHalls) ([1, 2, 1, 3, 4]))) rfl) rfl rfl rfl ?_
  refine o_nil ?_
  refine q_then ?_
  refine c_seq ?_
  refine c_region ?_
  refine o_pure (p_load_agg (i := 0) (vs := [.int .i64 (((Seg.run (⟨2, 1, [], []⟩ : DHalls) ([1, 2, 1, 3, 4])).1).first), .int .i64 (((Seg.run (⟨2, 1, [], []⟩ : DHalls) ([1, 2, 1, 3, 4])).1).second), .slice a6 (((Seg.run (⟨2, 1, [], []⟩ : DHalls) ([1, 2, 1, 3, 4])).1).young).length c7, .slice a8 (((Seg.run (⟨2, 1, [], []⟩ : DHalls) ([1, 2, 1, 3, 4])).1).old).length c9]) rfl rfl sh58 rfl rfl) rfl rfl rfl ?_
  refine o_callM rfl (saccess_ok ((Seg.run (⟨2, 1, [], []⟩ : DHalls) ([1, 2, 1, 3, 4])).1) a6 c7 a8 c9 (3 : Int)) hf33 (fun w hw => ⟨(rd_ent (i := 1) rfl (fun w h => h.1)) w hw, (rd_ent (i := 1) rfl (fun w h => h.2)) w hw⟩) rfl (fun _ _ _ _ ha hA => ⟨SlR.agree ha hA.1, SlR.agree ha hA.2.1, SlR.agree ha hA.2.2⟩) ?_
  rintro ⟨a15, c16, a17, c18, a19, c20⟩ S13
  refine o_know (fun w hw => (hw.at (i := 0) rfl).here.1.2.1) (fun hlr21 => ?_)
  refine o_know (fun w hw => (hw.at (i := 0) rfl).here.2.1.2.1) (fun hlr22 => ?_)
  refine o_know (fun w hw => (hw.at (i := 0) rfl).here.2.2.2.1) (fun hlr23 => ?_)
  refine o_pure (p_move (v := .tuple #[.agg #[.int .i64 (((Seg.access ((Seg.run (⟨2, 1, [], []⟩ : DHalls) ([1, 2, 1, 3, 4])).1) (3 : Int)).1).first), .int .i64 (((Seg.access ((Seg.run (⟨2, 1, [], []⟩ : DHalls) ([1, 2, 1, 3, 4])).1) (3 : Int)).1).second), .slice a15 (((Seg.access ((Seg.run (⟨2, 1, [], []⟩ : DHalls) ([1, 2, 1, 3, 4])).1) (3 : Int)).1).young).length c16, .slice a17 (((Seg.access ((Seg.run (⟨2, 1, [], []⟩ : DHalls) ([1, 2, 1, 3, 4])).1) (3 : Int)).1).old).length c18], .bool ((Seg.access ((Seg.run (⟨2, 1, [], []⟩ : DHalls) ([1, 2, 1, 3, 4])).1) (3 : Int)).2.1), .slice a19 ((Seg.access ((Seg.run (⟨2, 1, [], []⟩ : DHalls) ([1, 2, 1, 3, 4])).1) (3 : Int)).2.2).length c20, .int .i64 (Seg.accessErr ((Seg.run (⟨2, 1, [], []⟩ : DHalls) ([1, 2, 1, 3, 4])).1) (3 : Int))]) rfl) rfl rfl rfl ?_
  refine o_pure (p_extract (vs := [.agg #[.int .i64 (((Seg.access ((Seg.run (⟨2, 1, [], []⟩ : DHalls) ([1, 2, 1, 3, 4])).1) (3 : Int)).1).first), .int .i64 (((Seg.access ((Seg.run (⟨2, 1, [], []⟩ : DHalls) ([1, 2, 1, 3, 4])).1) (3 : Int)).1).second), .slice a15 (((Seg.access ((Seg.run (⟨2, 1, [], []⟩ : DHalls) ([1, 2, 1, 3, 4])).1) (3 : Int)).1).young).length c16, .slice a17 (((Seg.access ((Seg.run (⟨2, 1, [], []⟩ : DHalls) ([1, 2, 1, 3, 4])).1) (3 : Int)).1).old).length c18], .bool ((Seg.access ((Seg.run (⟨2, 1, [], []⟩ : DHalls) ([1, 2, 1, 3, 4])).1) (3 : Int)).2.1), .slice a19 ((Seg.access ((Seg.run (⟨2, 1, [], []⟩ : DHalls) ([1, 2, 1, 3, 4])).1) (3 : Int)).2.2).length c20, .int .i64 (Seg.accessErr ((Seg.run (⟨2, 1, [], []⟩ : DHalls) ([1, 2, 1, 3, 4])).1) (3 : Int))]) (v := .agg #[.int .i64 (((Seg.access ((Seg.run (⟨2, 1, [], []⟩ : DHalls) ([1, 2, 1, 3, 4])).1) (3 : Int)).1).first), .int .i64 (((Seg.access ((Seg.run (⟨2, 1, [], []⟩ : DHalls) ([1, 2, 1, 3, 4])).1) (3 : Int)).1).second), .slice a15 (((Seg.access ((Seg.run (⟨2, 1, [], []⟩ : DHalls) ([1, 2, 1, 3, 4])).1) (3 : Int)).1).young).length c16, .slice a17 (((Seg.access ((Seg.run (⟨2, 1, [], []⟩ : DHalls) ([1, 2, 1, 3, 4])).1) (3 : Int)).1).old).length c18]) rfl rfl) rfl rfl rfl ?_
  refine o_pure (p_extract (vs := [.agg #[.int .i64 (((Seg.access ((Seg.run (⟨2, 1, [], []⟩ : DHalls) ([1, 2, 1, 3, 4])).1) (3 : Int)).1).first), .int .i64 (((Seg.access ((Seg.run (⟨2, 1, [], []⟩ : DHalls) ([1, 2, 1, 3, 4])).1) (3 : Int)).1).second), .slice a15 (((Seg.access ((Seg.run (⟨2, 1, [], []⟩ : DHalls) ([1, 2, 1, 3, 4])).1) (3 : Int)).1).young).length c16, .slice a17 (((Seg.access ((Seg.run (⟨2, 1, [], []⟩ : DHalls) ([1, 2, 1, 3, 4])).1) (3 : Int)).1).old).length c18], .bool ((Seg.access ((Seg.run (⟨2, 1, [], []⟩ : DHalls) ([1, 2, 1, 3, 4])).1) (3 : Int)).2.1), .slice a19 ((Seg.access ((Seg.run (⟨2, 1, [], []⟩ : DHalls) ([1, 2, 1, 3, 4])).1) (3 : Int)).2.2).length c20, .int .i64 (Seg.accessErr ((Seg.run (⟨2, 1, [], []⟩ : DHalls) ([1, 2, 1, 3, 4])).1) (3 : Int))]) (v := .bool ((Seg.access ((Seg.run (⟨2, 1, [], []⟩ : DHalls) ([1, 2, 1, 3, 4])).1) (3 : Int)).2.1)) rfl rfl) rfl rfl rfl ?_
  refine o_pure (p_extract (vs := [.agg #[.int .i64 (((Seg.access ((Seg.run (⟨2, 1, [], []⟩ : DHalls) ([1, 2, 1, 3, 4])).1) (3 : Int)).1).first), .int .i64 (((Seg.access ((Seg.run (⟨2, 1, [], []⟩ : DHalls) ([1, 2, 1, 3, 4])).1) (3 : Int)).1).second), .slice a15 (((Seg.access ((Seg.run (⟨2, 1, [], []⟩ : DHalls) ([1, 2, 1, 3, 4])).1) (3 : Int)).1).young).length c16, .slice a17 (((Seg.access ((Seg.run (⟨2, 1, [], []⟩ : DHalls) ([1, 2, 1, 3, 4])).1) (3 : Int)).1).old).length c18], .bool ((Seg.access ((Seg.run (⟨2, 1, [], []⟩ : DHalls) ([1, 2, 1, 3, 4])).1) (3 : Int)).2.1), .slice a19 ((Seg.access ((Seg.run (⟨2, 1, [], []⟩ : DHalls) ([1, 2, 1, 3, 4])).1) (3 : Int)).2.2).length c20, .int .i64 (Seg.accessErr ((Seg.run (⟨2, 1, [], []⟩ : DHalls) ([1, 2, 1, 3, 4])).1) (3 : Int))]) (v := .slice a19 ((Seg.access ((Seg.run (⟨2, 1, [], []⟩ : DHalls) ([1, 2, 1, 3, 4])).1) (3 : Int)).2.2).length c20) rfl rfl) rfl rfl rfl ?_
  refine o_pure (p_extract (vs := [.agg #[.int .i64 (((Seg.access ((Seg.run (⟨2, 1, [], []⟩ : DHalls) ([1, 2, 1, 3, 4])).1) (3 : Int)).1).first), .int .i64 (((Seg.access ((Seg.run (⟨2, 1, [], []⟩ : DHalls) ([1, 2, 1, 3, 4])).1) (3 : Int)).1).second), .slice a15 (((Seg.access ((Seg.run (⟨2, 1, [], []⟩ : DHalls) ([1, 2, 1, 3, 4])).1) (3 : Int)).1).young).length c16, .slice a17 (((Seg.access ((Seg.run (⟨2, 1, [], []⟩ : DHalls) ([1, 2, 1, 3, 4])).1) (3 : Int)).1).old).length c18], .bool ((Seg.access ((Seg.run (⟨2, 1, [], []⟩ : DHalls) ([1, 2, 1, 3, 4])).1) (3 : Int)).2.1), .slice a19 ((Seg.access ((Seg.run (⟨2, 1, [], []⟩ : DHalls) ([1, 2, 1, 3, 4])).1) (3 : Int)).2.2).length c20, .int .i64 (Seg.accessErr ((Seg.run (⟨2, 1, [], []⟩ : DHalls) ([1, 2, 1, 3, 4])).1) (3 : Int))]) (v := .int .i64 (Seg.accessErr ((Seg.run (⟨2, 1, [], []⟩ : DHalls) ([1, 2, 1, 3, 4])).1) (3 : Int))) rfl rfl) rfl rfl rfl ?_
  refine o_alloc ze58 rfl (fun B24 => ?_)
  refine o_storeN (i := 0) (vs := [.int .i64 (((Seg.access ((Seg.run (⟨2, 1, [], []⟩ : DHalls) ([1, 2, 1, 3, 4])).1) (3 : Int)).1).first), .int .i64 (((Seg.access ((Seg.run (⟨2, 1, [], []⟩ : DHalls) ([1, 2, 1, 3, 4])).1) (3 : Int)).1).second), .slice a15 (((Seg.access ((Seg.run (⟨2, 1, [], []⟩ : DHalls) ([1, 2, 1, 3, 4])).1) (3 : Int)).1).young).length c16, .slice a17 (((Seg.access ((Seg.run (⟨2, 1, [], []⟩ : DHalls) ([1, 2, 1, 3, 4])).1) (3 : Int)).1).old).length c18]) (cs' := [.int .i64 (((Seg.access ((Seg.run (⟨2, 1, [], []⟩ : DHalls) ([1, 2, 1, 3, 4])).1) (3 : Int)).1).first), .int .i64 (((Seg.access ((Seg.run (⟨2, 1, [], []⟩ : DHalls) ([1, 2, 1, 3, 4])).1) (3 : Int)).1).second), .slice a15 (((Seg.access ((Seg.run (⟨2, 1, [], []⟩ : DHalls) ([1, 2, 1, 3, 4])).1) (3 : Int)).1).young).length c16, .slice a17 (((Seg.access ((Seg.run (⟨2, 1, [], []⟩ : DHalls) ([1, 2, 1, 3, 4])).1) (3 : Int)).1).old).length c18]) rfl rfl rfl sz58 rfl rfl rfl rfl ?_
  refine o_pure (p_assign (v := .bool ((Seg.access ((Seg.run (⟨2, 1, [], []⟩ : DHalls) ([1, 2, 1, 3, 4])).1) (3 : Int)).2.1)) rfl) rfl rfl rfl ?_
  refine o_pure (p_assign (v := .slice a19 ((Seg.access ((Seg.run (⟨2, 1, [], []⟩ : DHalls) ([1, 2, 1, 3, 4])).1) (3 : Int)).2.2).length c20) rfl) rfl rfl rfl ?_
  refine o_pure (p_assign (v := .int .i64 (Seg.accessErr ((Seg.run (⟨2, 1, [], []⟩ : DHalls) ([1, 2, 1, 3, 4])).1) (3 : Int))) rfl) rfl rfl rfl ?_
  refine o_nil ?_
  refine q_then ?_
  refine c_seq ?_
  refine c_region ?_
  refine o_pure (p_load_agg (i := 2) (vs := [.int .i64 (((Seg.run (⟨2, 1, [], []⟩ : DHalls) ([1, 2, 1, 3, 4])).1).first), .int .i64 (((Seg.run (⟨2, 1, [], []⟩ : DHalls) ([1, 2, 1, 3, 4])).1).second), .slice a6 (((Seg.run (⟨2, 1, [], []⟩ : DHalls) ([1, 2, 1, 3, 4])).1).young).length c7, .slice a8 (((Seg.run (⟨2, 1, [], []⟩ : DHalls) ([1, 2, 1, 3, 4])).1).old).length c9]) rfl rfl sh58 rfl rfl) rfl rfl rfl ?_
  refine o_callM rfl (skeys_ok ((Seg.run (⟨2, 1, [], []⟩ : DHalls) ([1, 2, 1, 3, 4])).1) a6 c7 a8 c9) hf35 (fun w hw => ⟨(rd_ent (i := 3) rfl (fun w h => h.1)) w hw, (rd_ent (i := 3) rfl (fun w h => h.2)) w hw⟩) rfl (fun _ _ _ _ ha hA => SlO.agree ha hA) ?_
  rintro ⟨a27, c28⟩ S25
  refine o_know (fun w hw => own_len (i := 0) (T := tInt) hw rfl) (fun hlr29 => ?_)
  refine o_pure (p_move (v := .tuple #[.slice a27 (Seg.flat ((Seg.run (⟨2, 1, [], []⟩ : DHalls) ([1, 2, 1, 3, 4])).1)).length c28, .int .i64 (Seg.check ((Seg.run (⟨2, 1, [], []⟩ : DHalls) ([1, 2, 1, 3, 4])).1))]) rfl) rfl rfl rfl ?_
  refine o_pure (p_extract (vs := [.slice a27 (Seg.flat ((Seg.run (⟨2, 1, [], []⟩ : DHalls) ([1, 2, 1, 3, 4])).1)).length c28, .int .i64 (Seg.check ((Seg.run (⟨2, 1, [], []⟩ : DHalls) ([1, 2, 1, 3, 4])).1))]) (v := .slice a27 (Seg.flat ((Seg.run (⟨2, 1, [], []⟩ : DHalls) ([1, 2, 1, 3, 4])).1)).length c28) rfl rfl) rfl rfl rfl ?_
  refine o_pure (p_extract (vs := [.slice a27 (Seg.flat ((Seg.run (⟨2, 1, [], []⟩ : DHalls) ([1, 2, 1, 3, 4])).1)).length c28, .int .i64 (Seg.check ((Seg.run (⟨2, 1, [], []⟩ : DHalls) ([1, 2, 1, 3, 4])).1))]) (v := .int .i64 (Seg.check ((Seg.run (⟨2, 1, [], []⟩ : DHalls) ([1, 2, 1, 3, 4])).1))) rfl rfl) rfl rfl rfl ?_
  refine o_pure (p_assign (v := .slice a27 (Seg.flat ((Seg.run (⟨2, 1, [], []⟩ : DHalls) ([1, 2, 1, 3, 4])).1)).length c28) rfl) rfl rfl rfl ?_
  refine o_pure (p_assign (v := .int .i64 (Seg.check ((Seg.run (⟨2, 1, [], []⟩ : DHalls) ([1, 2, 1, 3, 4])).1))) rfl) rfl rfl rfl ?_
  refine o_nil ?_
  refine q_then ?_
  refine c_seq ?_
  refine c_region ?_
  refine o_pure (p_load_agg (i := 3) (vs := [.int .i64 (((Seg.run (⟨2, 1, [], []⟩ : DHalls) ([1, 2, 1, 3, 4])).1).first), .int .i64 (((Seg.run (⟨2, 1, [], []⟩ : DHalls) ([1, 2, 1, 3, 4])).1).second), .slice a6 (((Seg.run (⟨2, 1, [], []⟩ : DHalls) ([1, 2, 1, 3, 4])).1).young).length c7, .slice a8 (((Seg.run (⟨2, 1, [], []⟩ : DHalls) ([1, 2, 1, 3, 4])).1).old).length c9]) rfl rfl sh58 rfl rfl) rfl rfl rfl ?_
  refine o_callM rfl (saccess_ok ((Seg.run (⟨2, 1, [], []⟩ : DHalls) ([1, 2, 1, 3, 4])).1) a6 c7 a8 c9 ((-1) : Int)) hf33 (fun w hw => ⟨(rd_ent (i := 4) rfl (fun w h => h.1)) w hw, (rd_ent (i := 4) rfl (fun w h => h.2)) w hw⟩) rfl (fun _ _ _ _ ha hA => ⟨SlR.agree ha hA.1, SlR.agree ha hA.2.1, SlR.agree ha hA.2.2⟩) ?_
  rintro ⟨a32, c33, a34, c35, a36, c37⟩ S30
  refine o_know (fun w hw => (hw.at (i := 0) rfl).here.1.2.1) (fun hlr38 => ?_)
  refine o_know (fun w hw => (hw.at (i := 0) rfl).here.2.1.2.1) (fun hlr39 => ?_)
  refine o_know (fun w hw => (hw.at (i := 0) rfl).here.2.2.2.1) (fun hlr40 => ?_)
  refine o_pure (p_move (v := .tuple #[.agg #[.int .i64 (((Seg.access ((Seg.run (⟨2, 1, [], []⟩ : DHalls) ([1, 2, 1, 3, 4])).1) ((-1) : Int)).1).first), .int .i64 (((Seg.access ((Seg.run (⟨2, 1, [], []⟩ : DHalls) ([1, 2, 1, 3, 4])).1) ((-1) : Int)).1).second), .slice a32 (((Seg.access ((Seg.run (⟨2, 1, [], []⟩ : DHalls) ([1, 2, 1, 3, 4])).1) ((-1) : Int)).1).young).length c33, .slice a34 (((Seg.access ((Seg.run (⟨2, 1, [], []⟩ : DHalls) ([1, 2, 1, 3, 4])).1) ((-1) : Int)).1).old).length c35], .bool ((Seg.access ((Seg.run (⟨2, 1, [], []⟩ : DHalls) ([1, 2, 1, 3, 4])).1) ((-1) : Int)).2.1), .slice a36 ((Seg.access ((Seg.run (⟨2, 1, [], []⟩ : DHalls) ([1, 2, 1, 3, 4])).1) ((-1) : Int)).2.2).length c37, .int .i64 (Seg.accessErr ((Seg.run (⟨2, 1, [], []⟩ : DHalls) ([1, 2, 1, 3, 4])).1) ((-1) : Int))]) rfl) rfl rfl rfl ?_
  refine o_pure (p_extract (vs := [.agg #[.int .i64 (((Seg.access ((Seg.run (⟨2, 1, [], []⟩ : DHalls) ([1, 2, 1, 3, 4])).1) ((-1) : Int)).1).first), .int .i64 (((Seg.access ((Seg.run (⟨2, 1, [], []⟩ : DHalls) ([1, 2, 1, 3, 4])).1) ((-1) : Int)).1).second), .slice a32 (((Seg.access ((Seg.run (⟨2, 1, [], []⟩ : DHalls) ([1, 2, 1, 3, 4])).1) ((-1) : Int)).1).young).length c33, .slice a34 (((Seg.access ((Seg.run (⟨2, 1, [], []⟩ : DHalls) ([1, 2, 1, 3, 4])).1) ((-1) : Int)).1).old).length c35], .bool ((Seg.access ((Seg.run (⟨2, 1, [], []⟩ : DHalls) ([1, 2, 1, 3, 4])).1) ((-1) : Int)).2.1), .slice a36 ((Seg.access ((Seg.run (⟨2, 1, [], []⟩ : DHalls) ([1, 2, 1, 3, 4])).1) ((-1) : Int)).2.2).length c37, .int .i64 (Seg.accessErr ((Seg.run (⟨2, 1, [], []⟩ : DHalls) ([1, 2, 1, 3, 4])).1) ((-1) : Int))]) (v := .agg #[.int .i64 (((Seg.access ((Seg.run (⟨2, 1, [], []⟩ : DHalls) ([1, 2, 1, 3, 4])).1) ((-1) : Int)).1).first), .int .i64 (((Seg.access ((Seg.run (⟨2, 1, [], []⟩ : DHalls) ([1, 2, 1, 3, 4])).1) ((-1) : Int)).1).second), .slice a32 (((Seg.access ((Seg.run (⟨2, 1, [], []⟩ : DHalls) ([1, 2, 1, 3, 4])).1) ((-1) : Int)).1).young).length c33, .slice a34 (((Seg.access ((Seg.run (⟨2, 1, [], []⟩ : DHalls) ([1, 2, 1, 3, 4])).1) ((-1) : Int)).1).old).length c35]) rfl rfl) rfl rfl rfl ?_
  refine o_pure (p_extract (vs := [.agg #[.int .i64 (((Seg.access ((Seg.run (⟨2, 1, [], []⟩ : DHalls) ([1, 2, 1, 3, 4])).1) ((-1) : Int)).1).first), .int .i64 (((Seg.access ((Seg.run (⟨2, 1, [], []⟩ : DHalls) ([1, 2, 1, 3, 4])).1) ((-1) : Int)).1).second), .slice a32 (((Seg.access ((Seg.run (⟨2, 1, [], []⟩ : DHalls) ([1, 2, 1, 3, 4])).1) ((-1) : Int)).1).young).length c33, .slice a34 (((Seg.access ((Seg.run (⟨2, 1, [], []⟩ : DHalls) ([1, 2, 1, 3, 4])).1) ((-1) : Int)).1).old).length c35], .bool ((Seg.access ((Seg.run (⟨2, 1, [], []⟩ : DHalls) ([1, 2, 1, 3, 4])).1) ((-1) : Int)).2.1), .slice a36 ((Seg.access ((Seg.run (⟨2, 1, [], []⟩ : DHalls) ([1, 2, 1, 3, 4])).1) ((-1) : Int)).2.2).length c37, .int .i64 (Seg.accessErr ((Seg.run (⟨2, 1, [], []⟩ : DHalls) ([1, 2, 1, 3, 4])).1) ((-1) : Int))]) (v := .bool ((Seg.access ((Seg.run (⟨2, 1, [], []⟩ : DHalls) ([1, 2, 1, 3, 4])).1) ((-1) : Int)).2.1)) rfl rfl) rfl rfl rfl ?_
  refine o_pure (p_extract (vs := [.agg #[.int .i64 (((Seg.access ((Seg.run (⟨2, 1, [], []⟩ : DHalls) ([1, 2, 1, 3, 4])).1) ((-1) : Int)).1).first), .int .i64 (((Seg.access ((Seg.run (⟨2, 1, [], []⟩ : DHalls) ([1, 2, 1, 3, 4])).1) ((-1) : Int)).1).second), .slice a32 (((Seg.access ((Seg.run (⟨2, 1, [], []⟩ : DHalls) ([1, 2, 1, 3, 4])).1) ((-1) : Int)).1).young).length c33, .slice a34 (((Seg.access ((Seg.run (⟨2, 1, [], []⟩ : DHalls) ([1, 2, 1, 3, 4])).1) ((-1) : Int)).1).old).length c35], .bool ((Seg.access ((Seg.run (⟨2, 1, [], []⟩ : DHalls) ([1, 2, 1, 3, 4])).1) ((-1) : Int)).2.1), .slice a36 ((Seg.access ((Seg.run (⟨2, 1, [], []⟩ : DHalls) ([1, 2, 1, 3, 4])).1) ((-1) : Int)).2.2).length c37, .int .i64 (Seg.accessErr ((Seg.run (⟨2, 1, [], []⟩ : DHalls) ([1, 2, 1, 3, 4])).1) ((-1) : Int))]) (v := .slice a36 ((Seg.access ((Seg.run (⟨2, 1, [], []⟩ : DHalls) ([1, 2, 1, 3, 4])).1) ((-1) : Int)).2.2).length c37) rfl rfl) rfl rfl rfl ?_
  refine o_pure (p_extract (vs := [.agg #[.int .i64 (((Seg.access ((Seg.run (⟨2, 1, [], []⟩ : DHalls) ([1, 2, 1, 3, 4])).1) ((-1) : Int)).1).first), .int .i64 (((Seg.access ((Seg.run (⟨2, 1, [], []⟩ : DHalls) ([1, 2, 1, 3, 4])).1) ((-1) : Int)).1).second), .slice a32 (((Seg.access ((Seg.run (⟨2, 1, [], []⟩ : DHalls) ([1, 2, 1, 3, 4])).1) ((-1) : Int)).1).young).length c33, .slice a34 (((Seg.access ((Seg.run (⟨2, 1, [], []⟩ : DHalls) ([1, 2, 1, 3, 4])).1) ((-1) : Int)).1).old).length c35], .bool ((Seg.access ((Seg.run (⟨2, 1, [], []⟩ : DHalls) ([1, 2, 1, 3, 4])).1) ((-1) : Int)).2.1), .slice a36 ((Seg.access ((Seg.run (⟨2, 1, [], []⟩ : DHalls) ([1, 2, 1, 3, 4])).1) ((-1) : Int)).2.2).length c37, .int .i64 (Seg.accessErr ((Seg.run (⟨2, 1, [], []⟩ : DHalls) ([1, 2, 1, 3, 4])).1) ((-1) : Int))]) (v := .int .i64 (Seg.accessErr ((Seg.run (⟨2, 1, [], []⟩ : DHalls) ([1, 2, 1, 3, 4])).1) ((-1) : Int))) rfl rfl) rfl rfl rfl ?_
  refine o_alloc ze58 rfl (fun B41 => ?_)
  refine o_storeN (i := 0) (vs := [.int .i64 (((Seg.access ((Seg.run (⟨2, 1, [], []⟩ : DHalls) ([1, 2, 1, 3, 4])).1) ((-1) : Int)).1).first), .int .i64 (((Seg.access ((Seg.run (⟨2, 1, [], []⟩ : DHalls) ([1, 2, 1, 3, 4])).1) ((-1) : Int)).1).second), .slice a32 (((Seg.access ((Seg.run (⟨2, 1, [], []⟩ : DHalls) ([1, 2, 1, 3, 4])).1) ((-1) : Int)).1).young).length c33, .slice a34 (((Seg.access ((Seg.run (⟨2, 1, [], []⟩ : DHalls) ([1, 2, 1, 3, 4])).1) ((-1) : Int)).1).old).length c35]) (cs' := [.int .i64 (((Seg.access ((Seg.run (⟨2, 1, [], []⟩ : DHalls) ([1, 2, 1, 3, 4])).1) ((-1) : Int)).1).first), .int .i64 (((Seg.access ((Seg.run (⟨2, 1, [], []⟩ : DHalls) ([1, 2, 1, 3, 4])).1) ((-1) : Int)).1).second), .slice a32 (((Seg.access ((Seg.run (⟨2, 1, [], []⟩ : DHalls) ([1, 2, 1, 3, 4])).1) ((-1) : Int)).1).young).length c33, .slice a34 (((Seg.access ((Seg.run (⟨2, 1, [], []⟩ : DHalls) ([1, 2, 1, 3, 4])).1) ((-1) : Int)).1).old).length c35]) rfl rfl rfl sz58 rfl rfl rfl rfl ?_
  refine o_pure (p_assign (v := .bool ((Seg.access ((Seg.run (⟨2, 1, [], []⟩ : DHalls) ([1, 2, 1, 3, 4])).1) ((-1) : Int)).2.1)) rfl) rfl rfl rfl ?_
  refine o_pure (p_assign (v := .slice a36 ((Seg.access ((Seg.run (⟨2, 1, [], []⟩ : DHalls) ([1, 2, 1, 3, 4])).1) ((-1) : Int)).2.2).length c37) rfl) rfl rfl rfl ?_
  refine o_pure (p_assign (v := .int .i64 (Seg.accessErr ((Seg.run (⟨2, 1, [], []⟩ : DHalls) ([1, 2, 1, 3, 4])).1) ((-1) : Int))) rfl) rfl rfl rfl ?_
  refine o_nil ?_
  refine q_then ?_
  refine c_seq ?_
  refine c_region ?_
  refine o_pure (p_load_agg (i := 5) (vs := [.int .i64 (((Seg.run (⟨2, 1, [], []⟩ : DHalls) ([1, 2, 1, 3, 4])).1).first), .int .i64 (((Seg.run (⟨2, 1, [], []⟩ : DHalls) ([1, 2, 1, 3, 4])).1).second), .slice a6 (((Seg.run (⟨2, 1, [], []⟩ : DHalls) ([1, 2, 1, 3, 4])).1).young).length c7, .slice a8 (((Seg.run (⟨2, 1, [], []⟩ : DHalls) ([1, 2, 1, 3, 4])).1).old).length c9]) rfl rfl sh58 rfl rfl) rfl rfl rfl ?_
  refine o_buildSlice (m := 2) (T := tInt) (L := [4, 3]) (vs := [.int .i64 4, .int .i64 3]) rfl rfl rfl rfl Try.underlying30 sz3 (by decide) ze3 rfl (by decide) rfl (fun S42 a43 => ?_)
  refine o_buildSlice (m := 1) (T := tInt) (L := [1]) (vs := [.int .i64 1]) rfl rfl rfl rfl Try.underlying30 sz3 (by decide) ze3 rfl (by decide) rfl (fun S45 a46 => ?_)
  refine o_pure (p_build (cells := [.int .i64 2, .int .i64 1, .slice a43 ([4, 3]).length ([4, 3].length), .slice a46 ([1]).length ([1].length)]) fp58 ze58 rfl rfl) rfl rfl rfl ?_
  refine o_call0 (v := .bool (decide (((Seg.run (⟨2, 1, [], []⟩ : DHalls) ([1, 2, 1, 3, 4])).1) = (⟨2, 1, [4, 3], [1]⟩ : DHalls)))) rfl (sameHalls_ok ((Seg.run (⟨2, 1, [], []⟩ : DHalls) ([1, 2, 1, 3, 4])).1) a6 c7 a8 c9 (⟨2, 1, [4, 3], [1]⟩ : DHalls) a43 ([4, 3].length) a46 ([1].length)) hf42 (fun w hw => ⟨(rd_ent (i := 8) rfl (fun w h => h.1)) w hw, (rd_ent (i := 8) rfl (fun w h => h.2)) w hw, (rd_own (i := 1) rfl) w hw, (rd_own (i := 0) rfl) w hw⟩) rfl ?_
  refine o_pure (p_move (v := .bool (decide (((Seg.run (⟨2, 1, [], []⟩ : DHalls) ([1, 2, 1, 3, 4])).1) = (⟨2, 1, [4, 3], [1]⟩ : DHalls)))) rfl) rfl rfl rfl ?_
  refine o_and (p := 48) 3 (((Seg.run (⟨2, 1, [], []⟩ : DHalls) ([1, 2, 1, 3, 4])).2) == 1) ?_ ?_ ?_
  · intro hb48 hk
    simp only [decide_eq_true_eq] at hb48
    refine o_unguard 45 rfl rfl ?_
    refine o_pure (p_move (v := .int .i64 ((Seg.run (⟨2, 1, [], []⟩ : DHalls) ([1, 2, 1, 3, 4])).2)) rfl) rfl rfl rfl ?_
    refine o_unguard 45 rfl rfl ?_
    refine o_pure (p_eq (p := ((Seg.run (⟨2, 1, [], []⟩ : DHalls) ([1, 2, 1, 3, 4])).2)) (q := 1) rfl rfl) rfl rfl rfl ?_
    refine o_pure (p_pick_true (u := .bool (((Seg.run (⟨2, 1, [], []⟩ : DHalls) ([1, 2, 1, 3, 4])).2) == 1)) rfl rfl) rfl rfl rfl ?_
    exact o_sub (Sub.cons rfl (Sub.skip rfl (Sub.skip rfl (Sub.skip rfl (Sub.skip rfl (Sub.refl _)))))) hk
  · intro hb48 hk
    refine o_guard_no rfl 45 rfl rfl rfl rfl rfl ?_
    refine o_guard_no rfl 45 rfl rfl rfl rfl rfl ?_
    refine o_pure (p_pick_false (v := .bool false) rfl rfl) rfl rfl rfl ?_
    exact o_sub (Sub.cons rfl (Sub.skip rfl (Sub.skip rfl (Sub.skip rfl (Sub.skip rfl (Sub.refl _)))))) hk
  refine o_pure (p_move (v := .bool ((decide (((Seg.run (⟨2, 1, [], []⟩ : DHalls) ([1, 2, 1, 3, 4])).1) = (⟨2, 1, [4, 3], [1]⟩ : DHalls))) && (((Seg.run (⟨2, 1, [], []⟩ : DHalls) ([1, 2, 1, 3, 4])).2) == 1))) rfl) rfl rfl rfl ?_
  refine o_and (p := 52) 3 ((Seg.runErr (⟨2, 1, [], []⟩ : DHalls) ([1, 2, 1, 3, 4])) == 0) ?_ ?_ ?_
  · intro hb49 hk
    simp only [Bool.and_eq_true, decide_eq_true_eq, beq_iff_eq] at hb49
    refine o_unguard 49 rfl rfl ?_
    refine o_pure (p_move (v := .int .i64 (Seg.runErr (⟨2, 1, [], []⟩ : DHalls) ([1, 2, 1, 3, 4]))) rfl) rfl rfl rfl ?_
    refine o_unguard 49 rfl rfl ?_
    refine o_pure (p_eq (p := (Seg.runErr (⟨2, 1, [], []⟩ : DHalls) ([1, 2, 1, 3, 4]))) (q := 0) rfl rfl) rfl rfl rfl ?_
    refine o_pure (p_pick_true (u := .bool ((Seg.runErr (⟨2, 1, [], []⟩ : DHalls) ([1, 2, 1, 3, 4])) == 0)) rfl rfl) rfl rfl rfl ?_
    exact o_sub (Sub.cons rfl (Sub.skip rfl (Sub.skip rfl (Sub.skip rfl (Sub.skip rfl (Sub.refl _)))))) hk
  · intro hb49 hk
    refine o_guard_no rfl 49 rfl rfl rfl rfl rfl ?_
    refine o_guard_no rfl 49 rfl rfl rfl rfl rfl ?_
    refine o_pure (p_pick_false (v := .bool false) rfl rfl) rfl rfl rfl ?_
    exact o_sub (Sub.cons rfl (Sub.skip rfl (Sub.skip rfl (Sub.skip rfl (Sub.skip rfl (Sub.refl _)))))) hk
  refine o_pure (p_move (v := .bool (((decide (((Seg.run (⟨2, 1, [], []⟩ : DHalls) ([1, 2, 1, 3, 4])).1) = (⟨2, 1, [4, 3], [1]⟩ : DHalls))) && (((Seg.run (⟨2, 1, [], []⟩ : DHalls) ([1, 2, 1, 3, 4])).2) == 1)) && ((Seg.runErr (⟨2, 1, [], []⟩ : DHalls) ([1, 2, 1, 3, 4])) == 0))) rfl) rfl rfl rfl ?_
  refine o_and (p := 55) 2 ((Seg.access ((Seg.run (⟨2, 1, [], []⟩ : DHalls) ([1, 2, 1, 3, 4])).1) (3 : Int)).2.1) ?_ ?_ ?_
  · intro hb50 hk
    simp only [Bool.and_eq_true, decide_eq_true_eq, beq_iff_eq] at hb50
    refine o_unguard 53 rfl rfl ?_
    refine o_pure (p_move (v := .bool ((Seg.access ((Seg.run (⟨2, 1, [], []⟩ : DHalls) ([1, 2, 1, 3, 4])).1) (3 : Int)).2.1)) rfl) rfl rfl rfl ?_
    refine o_pure (p_pick_true (u := .bool ((Seg.access ((Seg.run (⟨2, 1, [], []⟩ : DHalls) ([1, 2, 1, 3, 4])).1) (3 : Int)).2.1)) rfl rfl) rfl rfl rfl ?_
    exact o_sub (Sub.cons rfl (Sub.skip rfl (Sub.skip rfl (Sub.skip rfl (Sub.refl _))))) hk
  · intro hb50 hk
    refine o_guard_no rfl 53 rfl rfl rfl rfl rfl ?_
    refine o_pure (p_pick_false (v := .bool false) rfl rfl) rfl rfl rfl ?_
    exact o_sub (Sub.cons rfl (Sub.skip rfl (Sub.skip rfl (Sub.skip rfl (Sub.refl _))))) hk
  refine o_pure (p_move (v := .bool ((((decide (((Seg.run (⟨2, 1, [], []⟩ : DHalls) ([1, 2, 1, 3, 4])).1) = (⟨2, 1, [4, 3], [1]⟩ : DHalls))) && (((Seg.run (⟨2, 1, [], []⟩ : DHalls) ([1, 2, 1, 3, 4])).2) == 1)) && ((Seg.runErr (⟨2, 1, [], []⟩ : DHalls) ([1, 2, 1, 3, 4])) == 0)) && ((Seg.access ((Seg.run (⟨2, 1, [], []⟩ : DHalls) ([1, 2, 1, 3, 4])).1) (3 : Int)).2.1))) rfl) rfl rfl rfl ?_
  refine o_and (p := 60) 4 (Ref.sameInts ((Seg.access ((Seg.run (⟨2, 1, [], []⟩ : DHalls) ([1, 2, 1, 3, 4])).1) (3 : Int)).2.2) ([1])) ?_ ?_ ?_
  · intro hb51 hk
    simp only [Bool.and_eq_true, decide_eq_true_eq, beq_iff_eq] at hb51
    refine o_unguard 56 rfl rfl ?_
    refine o_pure (p_move (v := .slice a19 ((Seg.access ((Seg.run (⟨2, 1, [], []⟩ : DHalls) ([1, 2, 1, 3, 4])).1) (3 : Int)).2.2).length c20) rfl) rfl rfl rfl ?_
    refine o_unguard 56 rfl rfl ?_
    refine o_buildSlice (m := 1) (T := tInt) (L := [1]) (vs := [.int .i64 1]) rfl rfl rfl rfl Try.underlying30 sz3 (by decide) ze3 rfl (by decide) rfl (fun S52 a53 => ?_)
    refine o_unguard 56 rfl rfl ?_
    refine o_call0 (v := .bool (Ref.sameInts ((Seg.access ((Seg.run (⟨2, 1, [], []⟩ : DHalls) ([1, 2, 1, 3, 4])).1) (3 : Int)).2.2) ([1]))) rfl (sameInts_ok ((Seg.access ((Seg.run (⟨2, 1, [], []⟩ : DHalls) ([1, 2, 1, 3, 4])).1) (3 : Int)).2.2) a19 c20 ([1]) a53 ([1].length)) hf27 (fun w hw => ⟨(rd_ent (i := 7) rfl (fun w h => h.2.2)) w hw, (rd_own (i := 0) rfl) w hw⟩) rfl ?_
    refine o_pure (p_pick_true (u := .bool (Ref.sameInts ((Seg.access ((Seg.run (⟨2, 1, [], []⟩ : DHalls) ([1, 2, 1, 3, 4])).1) (3 : Int)).2.2) ([1]))) rfl rfl) rfl rfl rfl ?_
    exact o_sub (Sub.cons rfl (Sub.skip rfl (Sub.skip rfl (Sub.skip rfl (Sub.skip rfl (Sub.skip rfl (Sub.refl _))))))) (o_drop (List.Sublist.cons _ (List.Sublist.cons_cons _ (List.Sublist.cons_cons _ (List.Sublist.cons_cons _ (List.Sublist.cons_cons _ (List.Sublist.cons_cons _ (List.Sublist.cons_cons _ (List.Sublist.cons_cons _ (List.Sublist.cons_cons _ (List.Sublist.cons_cons _ (List.Sublist.cons_cons _ (List.Sublist.cons_cons _ (List.Sublist.slnil))))))))))))) hk)
  · intro hb51 hk
    refine o_guard_no rfl 56 rfl rfl rfl rfl rfl ?_
    refine o_guard_no rfl 56 rfl rfl rfl rfl rfl ?_
    refine o_guard_no rfl 56 rfl rfl rfl rfl rfl ?_
    refine o_pure (p_pick_false (v := .bool false) rfl rfl) rfl rfl rfl ?_
    exact o_sub (Sub.cons rfl (Sub.skip rfl (Sub.skip rfl (Sub.skip rfl (Sub.skip rfl (Sub.skip rfl (Sub.refl _))))))) hk
  refine o_pure (p_move (v := .bool (((((decide (((Seg.run (⟨2, 1, [], []⟩ : DHalls) ([1, 2, 1, 3, 4])).1) = (⟨2, 1, [4, 3], [1]⟩ : DHalls))) && (((Seg.run (⟨2, 1, [], []⟩ : DHalls) ([1, 2, 1, 3, 4])).2) == 1)) && ((Seg.runErr (⟨2, 1, [], []⟩ : DHalls) ([1, 2, 1, 3, 4])) == 0)) && ((Seg.access ((Seg.run (⟨2, 1, [], []⟩ : DHalls) ([1, 2, 1, 3, 4])).1) (3 : Int)).2.1)) && (Ref.sameInts ((Seg.access ((Seg.run (⟨2, 1, [], []⟩ : DHalls) ([1, 2, 1, 3, 4])).1) (3 : Int)).2.2) ([1])))) rfl) rfl rfl rfl ?_
  refine o_and (p := 66) 5 (Ref.sameInts (((Seg.access ((Seg.run (⟨2, 1, [], []⟩ : DHalls) ([1, 2, 1, 3, 4])).1) (3 : Int)).1).old) ([3])) ?_ ?_ ?_
  · intro hb55 hk
    simp only [Bool.and_eq_true, decide_eq_true_eq, beq_iff_eq] at hb55
    refine o_unguard 61 rfl rfl ?_
    refine o_pure (p_fieldAddr (B := B24) (j := 0) (j' := 3) rfl fo58_3 rfl) rfl rfl rfl ?_
    refine o_unguard 61 rfl rfl ?_
    refine o_pure (p_load (i := 5) (v := .slice a17 (((Seg.access ((Seg.run (⟨2, 1, [], []⟩ : DHalls) ([1, 2, 1, 3, 4])).1) (3 : Int)).1).old).length c18) rfl rfl sh30 rfl) rfl rfl rfl ?_
    refine o_unguard 61 rfl rfl ?_
    refine o_buildSlice (m := 1) (T := tInt) (L := [3]) (vs := [.int .i64 3]) rfl rfl rfl rfl Try.underlying30 sz3 (by decide) ze3 rfl (by decide) rfl (fun S56 a57 => ?_)
    refine o_unguard 61 rfl rfl ?_
    refine o_call0 (v := .bool (Ref.sameInts (((Seg.access ((Seg.run (⟨2, 1, [], []⟩ : DHalls) ([1, 2, 1, 3, 4])).1) (3 : Int)).1).old) ([3]))) rfl (sameInts_ok (((Seg.access ((Seg.run (⟨2, 1, [], []⟩ : DHalls) ([1, 2, 1, 3, 4])).1) (3 : Int)).1).old) a17 c18 ([3]) a57 ([3].length)) hf27 (fun w hw => ⟨(rd_ent (i := 7) rfl (fun w h => h.2.1)) w hw, (rd_own (i := 0) rfl) w hw⟩) rfl ?_
    refine o_pure (p_pick_true (u := .bool (Ref.sameInts (((Seg.access ((Seg.run (⟨2, 1, [], []⟩ : DHalls) ([1, 2, 1, 3, 4])).1) (3 : Int)).1).old) ([3]))) rfl rfl) rfl rfl rfl ?_
    exact o_sub (Sub.cons rfl (Sub.skip rfl (Sub.skip rfl (Sub.skip rfl (Sub.skip rfl (Sub.skip rfl (Sub.skip rfl (Sub.refl _)))))))) (o_drop (List.Sublist.cons _ (List.Sublist.cons_cons _ (List.Sublist.cons_cons _ (List.Sublist.cons_cons _ (List.Sublist.cons_cons _ (List.Sublist.cons_cons _ (List.Sublist.cons_cons _ (List.Sublist.cons_cons _ (List.Sublist.cons_cons _ (List.Sublist.cons_cons _ (List.Sublist.cons_cons _ (List.Sublist.cons_cons _ (List.Sublist.slnil))))))))))))) hk)
  · intro hb55 hk
    refine o_guard_no rfl 61 rfl rfl rfl rfl rfl ?_
    refine o_guard_no rfl 61 rfl rfl rfl rfl rfl ?_
    refine o_guard_no rfl 61 rfl rfl rfl rfl rfl ?_
    refine o_guard_no rfl 61 rfl rfl rfl rfl rfl ?_
    refine o_pure (p_pick_false (v := .bool false) rfl rfl) rfl rfl rfl ?_
    exact o_sub (Sub.cons rfl (Sub.skip rfl (Sub.skip rfl (Sub.skip rfl (Sub.skip rfl (Sub.skip rfl (Sub.skip rfl (Sub.refl _)))))))) hk
  refine o_pure (p_move (v := .bool ((((((decide (((Seg.run (⟨2, 1, [], []⟩ : DHalls) ([1, 2, 1, 3, 4])).1) = (⟨2, 1, [4, 3], [1]⟩ : DHalls))) && (((Seg.run (⟨2, 1, [], []⟩ : DHalls) ([1, 2, 1, 3, 4])).2) == 1)) && ((Seg.runErr (⟨2, 1, [], []⟩ : DHalls) ([1, 2, 1, 3, 4])) == 0)) && ((Seg.access ((Seg.run (⟨2, 1, [], []⟩ : DHalls) ([1, 2, 1, 3, 4])).1) (3 : Int)).2.1)) && (Ref.sameInts ((Seg.access ((Seg.run (⟨2, 1, [], []⟩ : DHalls) ([1, 2, 1, 3, 4])).1) (3 : Int)).2.2) ([1]))) && (Ref.sameInts (((Seg.access ((Seg.run (⟨2, 1, [], []⟩ : DHalls) ([1, 2, 1, 3, 4])).1) (3 : Int)).1).old) ([3])))) rfl) rfl rfl rfl ?_
  refine o_and (p := 70) 3 ((Seg.accessErr ((Seg.run (⟨2, 1, [], []⟩ : DHalls) ([1, 2, 1, 3, 4])).1) (3 : Int)) == 0) ?_ ?_ ?_
  · intro hb59 hk
    simp only [Bool.and_eq_true, decide_eq_true_eq, beq_iff_eq] at hb59
    refine o_unguard 67 rfl rfl ?_
    refine o_pure (p_move (v := .int .i64 (Seg.accessErr ((Seg.run (⟨2, 1, [], []⟩ : DHalls) ([1, 2, 1, 3, 4])).1) (3 : Int))) rfl) rfl rfl rfl ?_
    refine o_unguard 67 rfl rfl ?_
    refine o_pure (p_eq (p := (Seg.accessErr ((Seg.run (⟨2, 1, [], []⟩ : DHalls) ([1, 2, 1, 3, 4])).1) (3 : Int))) (q := 0) rfl rfl) rfl rfl rfl ?_
    refine o_pure (p_pick_true (u := .bool ((Seg.accessErr ((Seg.run (⟨2, 1, [], []⟩ : DHalls) ([1, 2, 1, 3, 4])).1) (3 : Int)) == 0)) rfl rfl) rfl rfl rfl ?_
    exact o_sub (Sub.cons rfl (Sub.skip rfl (Sub.skip rfl (Sub.skip rfl (Sub.skip rfl (Sub.refl _)))))) hk
  · intro hb59 hk
    refine o_guard_no rfl 67 rfl rfl rfl rfl rfl ?_
    refine o_guard_no rfl 67 rfl rfl rfl rfl rfl ?_
    refine o_pure (p_pick_false (v := .bool false) rfl rfl) rfl rfl rfl ?_
    exact o_sub (Sub.cons rfl (Sub.skip rfl (Sub.skip rfl (Sub.skip rfl (Sub.skip rfl (Sub.refl _)))))) hk
  refine o_pure (p_move (v := .bool (((((((decide (((Seg.run (⟨2, 1, [], []⟩ : DHalls) ([1, 2, 1, 3, 4])).1) = (⟨2, 1, [4, 3], [1]⟩ : DHalls))) && (((Seg.run (⟨2, 1, [], []⟩ : DHalls) ([1, 2, 1, 3, 4])).2) == 1)) && ((Seg.runErr (⟨2, 1, [], []⟩ : DHalls) ([1, 2, 1, 3, 4])) == 0)) && ((Seg.access ((Seg.run (⟨2, 1, [], []⟩ : DHalls) ([1, 2, 1, 3, 4])).1) (3 : Int)).2.1)) && (Ref.sameInts ((Seg.access ((Seg.run (⟨2, 1, [], []⟩ : DHalls) ([1, 2, 1, 3, 4])).1) (3 : Int)).2.2) ([1]))) && (Ref.sameInts (((Seg.access ((Seg.run (⟨2, 1, [], []⟩ : DHalls) ([1, 2, 1, 3, 4])).1) (3 : Int)).1).old) ([3]))) && ((Seg.accessErr ((Seg.run (⟨2, 1, [], []⟩ : DHalls) ([1, 2, 1, 3, 4])).1) (3 : Int)) == 0))) rfl) rfl rfl rfl ?_
  refine o_and (p := 75) 4 (Ref.sameInts (Seg.flat ((Seg.run (⟨2, 1, [], []⟩ : DHalls) ([1, 2, 1, 3, 4])).1)) ([4, 3, 1])) ?_ ?_ ?_
  · intro hb60 hk
    simp only [Bool.and_eq_true, decide_eq_true_eq, beq_iff_eq] at hb60
    refine o_unguard 71 rfl rfl ?_
    refine o_pure (p_move (v := .slice a27 (Seg.flat ((Seg.run (⟨2, 1, [], []⟩ : DHalls) ([1, 2, 1, 3, 4])).1)).length c28) rfl) rfl rfl rfl ?_
    refine o_unguard 71 rfl rfl ?_
    refine o_buildSlice (m := 3) (T := tInt) (L := [4, 3, 1]) (vs := [.int .i64 4, .int .i64 3, .int .i64 1]) rfl rfl rfl rfl Try.underlying30 sz3 (by decide) ze3 rfl (by decide) rfl (fun S61 a62 => ?_)
    refine o_unguard 71 rfl rfl ?_
    refine o_call0 (v := .bool (Ref.sameInts (Seg.flat ((Seg.run (⟨2, 1, [], []⟩ : DHalls) ([1, 2, 1, 3, 4])).1)) ([4, 3, 1]))) rfl (sameInts_ok (Seg.flat ((Seg.run (⟨2, 1, [], []⟩ : DHalls) ([1, 2, 1, 3, 4])).1)) a27 c28 ([4, 3, 1]) a62 ([4, 3, 1].length)) hf27 (fun w hw => ⟨(rd_own (i := 5) rfl) w hw, (rd_own (i := 0) rfl) w hw⟩) rfl ?_
    refine o_pure (p_pick_true (u := .bool (Ref.sameInts (Seg.flat ((Seg.run (⟨2, 1, [], []⟩ : DHalls) ([1, 2, 1, 3, 4])).1)) ([4, 3, 1]))) rfl rfl) rfl rfl rfl ?_
    exact o_sub (Sub.cons rfl (Sub.skip rfl (Sub.skip rfl (Sub.skip rfl (Sub.skip rfl (Sub.skip rfl (Sub.refl _))))))) (o_drop (List.Sublist.cons _ (List.Sublist.cons_cons _ (List.Sublist.cons_cons _ (List.Sublist.cons_cons _ (List.Sublist.cons_cons _ (List.Sublist.cons_cons _ (List.Sublist.cons_cons _ (List.Sublist.cons_cons _ (List.Sublist.cons_cons _ (List.Sublist.cons_cons _ (List.Sublist.cons_cons _ (List.Sublist.cons_cons _ (List.Sublist.slnil))))))))))))) hk)
  · intro hb60 hk
    refine o_guard_no rfl 71 rfl rfl rfl rfl rfl ?_
    refine o_guard_no rfl 71 rfl rfl rfl rfl rfl ?_
    refine o_guard_no rfl 71 rfl rfl rfl rfl rfl ?_
    refine o_pure (p_pick_false (v := .bool false) rfl rfl) rfl rfl rfl ?_
    exact o_sub (Sub.cons rfl (Sub.skip rfl (Sub.skip rfl (Sub.skip rfl (Sub.skip rfl (Sub.skip rfl (Sub.refl _))))))) hk
  refine o_pure (p_move (v := .bool ((((((((decide (((Seg.run (⟨2, 1, [], []⟩ : DHalls) ([1, 2, 1, 3, 4])).1) = (⟨2, 1, [4, 3], [1]⟩ : DHalls))) && (((Seg.run (⟨2, 1, [], []⟩ : DHalls) ([1, 2, 1, 3, 4])).2) == 1)) && ((Seg.runErr (⟨2, 1, [], []⟩ : DHalls) ([1, 2, 1, 3, 4])) == 0)) && ((Seg.access ((Seg.run (⟨2, 1, [], []⟩ : DHalls) ([1, 2, 1, 3, 4])).1) (3 : Int)).2.1)) && (Ref.sameInts ((Seg.access ((Seg.run (⟨2, 1, [], []⟩ : DHalls) ([1, 2, 1, 3, 4])).1) (3 : Int)).2.2) ([1]))) && (Ref.sameInts (((Seg.access ((Seg.run (⟨2, 1, [], []⟩ : DHalls) ([1, 2, 1, 3, 4])).1) (3 : Int)).1).old) ([3]))) && ((Seg.accessErr ((Seg.run (⟨2, 1, [], []⟩ : DHalls) ([1, 2, 1, 3, 4])).1) (3 : Int)) == 0)) && (Ref.sameInts (Seg.flat ((Seg.run (⟨2, 1, [], []⟩ : DHalls) ([1, 2, 1, 3, 4])).1)) ([4, 3, 1])))) rfl) rfl rfl rfl ?_
  refine o_and (p := 79) 3 ((Seg.check ((Seg.run (⟨2, 1, [], []⟩ : DHalls) ([1, 2, 1, 3, 4])).1)) == 0) ?_ ?_ ?_
  · intro hb64 hk
    simp only [Bool.and_eq_true, decide_eq_true_eq, beq_iff_eq] at hb64
    refine o_unguard 76 rfl rfl ?_
    refine o_pure (p_move (v := .int .i64 (Seg.check ((Seg.run (⟨2, 1, [], []⟩ : DHalls) ([1, 2, 1, 3, 4])).1))) rfl) rfl rfl rfl ?_
    refine o_unguard 76 rfl rfl ?_
    refine o_pure (p_eq (p := (Seg.check ((Seg.run (⟨2, 1, [], []⟩ : DHalls) ([1, 2, 1, 3, 4])).1))) (q := 0) rfl rfl) rfl rfl rfl ?_
    refine o_pure (p_pick_true (u := .bool ((Seg.check ((Seg.run (⟨2, 1, [], []⟩ : DHalls) ([1, 2, 1, 3, 4])).1)) == 0)) rfl rfl) rfl rfl rfl ?_
    exact o_sub (Sub.cons rfl (Sub.skip rfl (Sub.skip rfl (Sub.skip rfl (Sub.skip rfl (Sub.refl _)))))) hk
  · intro hb64 hk
    refine o_guard_no rfl 76 rfl rfl rfl rfl rfl ?_
    refine o_guard_no rfl 76 rfl rfl rfl rfl rfl ?_
    refine o_pure (p_pick_false (v := .bool false) rfl rfl) rfl rfl rfl ?_
    exact o_sub (Sub.cons rfl (Sub.skip rfl (Sub.skip rfl (Sub.skip rfl (Sub.skip rfl (Sub.refl _)))))) hk
  refine o_pure (p_move (v := .bool (((((((((decide (((Seg.run (⟨2, 1, [], []⟩ : DHalls) ([1, 2, 1, 3, 4])).1) = (⟨2, 1, [4, 3], [1]⟩ : DHalls))) && (((Seg.run (⟨2, 1, [], []⟩ : DHalls) ([1, 2, 1, 3, 4])).2) == 1)) && ((Seg.runErr (⟨2, 1, [], []⟩ : DHalls) ([1, 2, 1, 3, 4])) == 0)) && ((Seg.access ((Seg.run (⟨2, 1, [], []⟩ : DHalls) ([1, 2, 1, 3, 4])).1) (3 : Int)).2.1)) && (Ref.sameInts ((Seg.access ((Seg.run (⟨2, 1, [], []⟩ : DHalls) ([1, 2, 1, 3, 4])).1) (3 : Int)).2.2) ([1]))) && (Ref.sameInts (((Seg.access ((Seg.run (⟨2, 1, [], []⟩ : DHalls) ([1, 2, 1, 3, 4])).1) (3 : Int)).1).old) ([3]))) && ((Seg.accessErr ((Seg.run (⟨2, 1, [], []⟩ : DHalls) ([1, 2, 1, 3, 4])).1) (3 : Int)) == 0)) && (Ref.sameInts (Seg.flat ((Seg.run (⟨2, 1, [], []⟩ : DHalls) ([1, 2, 1, 3, 4])).1)) ([4, 3, 1]))) && ((Seg.check ((Seg.run (⟨2, 1, [], []⟩ : DHalls) ([1, 2, 1, 3, 4])).1)) == 0))) rfl) rfl rfl rfl ?_
  refine o_and (p := 83) 3 ((Seg.accessErr ((Seg.run (⟨2, 1, [], []⟩ : DHalls) ([1, 2, 1, 3, 4])).1) ((-1) : Int)) == 3) ?_ ?_ ?_
  · intro hb65 hk
    simp only [Bool.and_eq_true, decide_eq_true_eq, beq_iff_eq] at hb65
    refine o_unguard 80 rfl rfl ?_
    refine o_pure (p_move (v := .int .i64 (Seg.accessErr ((Seg.run (⟨2, 1, [], []⟩ : DHalls) ([1, 2, 1, 3, 4])).1) ((-1) : Int))) rfl) rfl rfl rfl ?_
    refine o_unguard 80 rfl rfl ?_
    refine o_pure (p_eq (p := (Seg.accessErr ((Seg.run (⟨2, 1, [], []⟩ : DHalls) ([1, 2, 1, 3, 4])).1) ((-1) : Int))) (q := 3) rfl rfl) rfl rfl rfl ?_
    refine o_pure (p_pick_true (u := .bool ((Seg.accessErr ((Seg.run (⟨2, 1, [], []⟩ : DHalls) ([1, 2, 1, 3, 4])).1) ((-1) : Int)) == 3)) rfl rfl) rfl rfl rfl ?_
    exact o_sub (Sub.cons rfl (Sub.skip rfl (Sub.skip rfl (Sub.skip rfl (Sub.skip rfl (Sub.refl _)))))) hk
  · intro hb65 hk
    refine o_guard_no rfl 80 rfl rfl rfl rfl rfl ?_
    refine o_guard_no rfl 80 rfl rfl rfl rfl rfl ?_
    refine o_pure (p_pick_false (v := .bool false) rfl rfl) rfl rfl rfl ?_
    exact o_sub (Sub.cons rfl (Sub.skip rfl (Sub.skip rfl (Sub.skip rfl (Sub.skip rfl (Sub.refl _)))))) hk
  refine o_pure (p_move (v := .bool ((((((((((decide (((Seg.run (⟨2, 1, [], []⟩ : DHalls) ([1, 2, 1, 3, 4])).1) = (⟨2, 1, [4, 3], [1]⟩ : DHalls))) && (((Seg.run (⟨2, 1, [], []⟩ : DHalls) ([1, 2, 1, 3, 4])).2) == 1)) && ((Seg.runErr (⟨2, 1, [], []⟩ : DHalls) ([1, 2, 1, 3, 4])) == 0)) && ((Seg.access ((Seg.run (⟨2, 1, [], []⟩ : DHalls) ([1, 2, 1, 3, 4])).1) (3 : Int)).2.1)) && (Ref.sameInts ((Seg.access ((Seg.run (⟨2, 1, [], []⟩ : DHalls) ([1, 2, 1, 3, 4])).1) (3 : Int)).2.2) ([1]))) && (Ref.sameInts (((Seg.access ((Seg.run (⟨2, 1, [], []⟩ : DHalls) ([1, 2, 1, 3, 4])).1) (3 : Int)).1).old) ([3]))) && ((Seg.accessErr ((Seg.run (⟨2, 1, [], []⟩ : DHalls) ([1, 2, 1, 3, 4])).1) (3 : Int)) == 0)) && (Ref.sameInts (Seg.flat ((Seg.run (⟨2, 1, [], []⟩ : DHalls) ([1, 2, 1, 3, 4])).1)) ([4, 3, 1]))) && ((Seg.check ((Seg.run (⟨2, 1, [], []⟩ : DHalls) ([1, 2, 1, 3, 4])).1)) == 0)) && ((Seg.accessErr ((Seg.run (⟨2, 1, [], []⟩ : DHalls) ([1, 2, 1, 3, 4])).1) ((-1) : Int)) == 3))) rfl) rfl rfl rfl ?_
  refine o_and (p := 88) 4 ((Seg.check (⟨0, 0, [], []⟩ : DHalls)) == 3) ?_ ?_ ?_
  · intro hb66 hk
    simp only [Bool.and_eq_true, decide_eq_true_eq, beq_iff_eq] at hb66
    refine o_unguard 84 rfl rfl ?_
    refine o_pure (p_build (cells := [.int .i64 0, .int .i64 0, .slice none 0 0, .slice none 0 0]) fp58 ze58 rfl rfl) rfl rfl rfl ?_
    refine o_unguard 84 rfl rfl ?_
    refine o_call0 (v := .int .i64 (Seg.check (⟨0, 0, [], []⟩ : DHalls))) rfl (scheck_ok (⟨0, 0, [], []⟩ : DHalls) none 0 none 0) hf41 (fun w hw => ⟨rd_nil w hw, rd_nil w hw⟩) rfl ?_
    refine o_unguard 84 rfl rfl ?_
    refine o_pure (p_eq (p := (Seg.check (⟨0, 0, [], []⟩ : DHalls))) (q := 3) rfl rfl) rfl rfl rfl ?_
    refine o_pure (p_pick_true (u := .bool ((Seg.check (⟨0, 0, [], []⟩ : DHalls)) == 3)) rfl rfl) rfl rfl rfl ?_
    exact o_sub (Sub.cons rfl (Sub.skip rfl (Sub.skip rfl (Sub.skip rfl (Sub.skip rfl (Sub.skip rfl (Sub.refl _))))))) hk
  · intro hb66 hk
    refine o_guard_no rfl 84 rfl rfl rfl rfl rfl ?_
    refine o_guard_no rfl 84 rfl rfl rfl rfl rfl ?_
    refine o_guard_no rfl 84 rfl rfl rfl rfl rfl ?_
    refine o_pure (p_pick_false (v := .bool false) rfl rfl) rfl rfl rfl ?_
    exact o_sub (Sub.cons rfl (Sub.skip rfl (Sub.skip rfl (Sub.skip rfl (Sub.skip rfl (Sub.skip rfl (Sub.refl _))))))) hk
  refine o_pure (p_assign (v := .bool (((((((((((decide (((Seg.run (⟨2, 1, [], []⟩ : DHalls) ([1, 2, 1, 3, 4])).1) = (⟨2, 1, [4, 3], [1]⟩ : DHalls))) && (((Seg.run (⟨2, 1, [], []⟩ : DHalls) ([1, 2, 1, 3, 4])).2) == 1)) && ((Seg.runErr (⟨2, 1, [], []⟩ : DHalls) ([1, 2, 1, 3, 4])) == 0)) && ((Seg.access ((Seg.run (⟨2, 1, [], []⟩ : DHalls) ([1, 2, 1, 3, 4])).1) (3 : Int)).2.1)) && (Ref.sameInts ((Seg.access ((Seg.run (⟨2, 1, [], []⟩ : DHalls) ([1, 2, 1, 3, 4])).1) (3 : Int)).2.2) ([1]))) && (Ref.sameInts (((Seg.access ((Seg.run (⟨2, 1, [], []⟩ : DHalls) ([1, 2, 1, 3, 4])).1) (3 : Int)).1).old) ([3]))) && ((Seg.accessErr ((Seg.run (⟨2, 1, [], []⟩ : DHalls) ([1, 2, 1, 3, 4])).1) (3 : Int)) == 0)) && (Ref.sameInts (Seg.flat ((Seg.run (⟨2, 1, [], []⟩ : DHalls) ([1, 2, 1, 3, 4])).1)) ([4, 3, 1]))) && ((Seg.check ((Seg.run (⟨2, 1, [], []⟩ : DHalls) ([1, 2, 1, 3, 4])).1)) == 0)) && ((Seg.accessErr ((Seg.run (⟨2, 1, [], []⟩ : DHalls) ([1, 2, 1, 3, 4])).1) ((-1) : Int)) == 3)) && ((Seg.check (⟨0, 0, [], []⟩ : DHalls)) == 3))) rfl) rfl rfl rfl ?_
  refine o_nil ?_
  refine q_then ?_
  refine c_ret ?_
  have hr0 : ((((((((((((decide (((Seg.run (⟨2, 1, [], []⟩ : DHalls) ([1, 2, 1, 3, 4])).1) = (⟨2, 1, [4, 3], [1]⟩ : DHalls))) && (((Seg.run (⟨2, 1, [], []⟩ : DHalls) ([1, 2, 1, 3, 4])).2) == 1)) && ((Seg.runErr (⟨2, 1, [], []⟩ : DHalls) ([1, 2, 1, 3, 4])) == 0)) && ((Seg.access ((Seg.run (⟨2, 1, [], []⟩ : DHalls) ([1, 2, 1, 3, 4])).1) (3 : Int)).2.1)) && (Ref.sameInts ((Seg.access ((Seg.run (⟨2, 1, [], []⟩ : DHalls) ([1, 2, 1, 3, 4])).1) (3 : Int)).2.2) ([1]))) && (Ref.sameInts (((Seg.access ((Seg.run (⟨2, 1, [], []⟩ : DHalls) ([1, 2, 1, 3, 4])).1) (3 : Int)).1).old) ([3]))) && ((Seg.accessErr ((Seg.run (⟨2, 1, [], []⟩ : DHalls) ([1, 2, 1, 3, 4])).1) (3 : Int)) == 0)) && (Ref.sameInts (Seg.flat ((Seg.run (⟨2, 1, [], []⟩ : DHalls) ([1, 2, 1, 3, 4])).1)) ([4, 3, 1]))) && ((Seg.check ((Seg.run (⟨2, 1, [], []⟩ : DHalls) ([1, 2, 1, 3, 4])).1)) == 0)) && ((Seg.accessErr ((Seg.run (⟨2, 1, [], []⟩ : DHalls) ([1, 2, 1, 3, 4])).1) ((-1) : Int)) == 3)) && ((Seg.check (⟨0, 0, [], []⟩ : DHalls)) == 3)) : Bool) = true := by
    first | rfl | decide +kernel
  refine q_end0 (v := .bool (((((((((((decide (((Seg.run (⟨2, 1, [], []⟩ : DHalls) ([1, 2, 1, 3, 4])).1) = (⟨2, 1, [4, 3], [1]⟩ : DHalls))) && (((Seg.run (⟨2, 1, [], []⟩ : DHalls) ([1, 2, 1, 3, 4])).2) == 1)) && ((Seg.runErr (⟨2, 1, [], []⟩ : DHalls) ([1, 2, 1, 3, 4])) == 0)) && ((Seg.access ((Seg.run (⟨2, 1, [], []⟩ : DHalls) ([1, 2, 1, 3, 4])).1) (3 : Int)).2.1)) && (Ref.sameInts ((Seg.access ((Seg.run (⟨2, 1, [], []⟩ : DHalls) ([1, 2, 1, 3, 4])).1) (3 : Int)).2.2) ([1]))) && (Ref.sameInts (((Seg.access ((Seg.run (⟨2, 1, [], []⟩ : DHalls) ([1, 2, 1, 3, 4])).1) (3 : Int)).1).old) ([3]))) && ((Seg.accessErr ((Seg.run (⟨2, 1, [], []⟩ : DHalls) ([1, 2, 1, 3, 4])).1) (3 : Int)) == 0)) && (Ref.sameInts (Seg.flat ((Seg.run (⟨2, 1, [], []⟩ : DHalls) ([1, 2, 1, 3, 4])).1)) ([4, 3, 1]))) && ((Seg.check ((Seg.run (⟨2, 1, [], []⟩ : DHalls) ([1, 2, 1, 3, 4])).1)) == 0)) && ((Seg.accessErr ((Seg.run (⟨2, 1, [], []⟩ : DHalls) ([1, 2, 1, 3, 4])).1) ((-1) : Int)) == 3)) && ((Seg.check (⟨0, 0, [], []⟩ : DHalls)) == 3))) (rt1 rfl (r_tmp rfl)) (i := 10) rfl ?_
  exact (by have hcc := congrArg (fun (y0 : Bool) => (.bool y0 : Value)) hr0; exact hcc)
end Go.Proofs.Ytkndekkacimekaa
