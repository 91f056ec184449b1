/- The walks, printed by a program from the translation and a specification. -/
import Derived.Test.YtgjdmnljnimamaaTiF
import Derived.Test.YtgjdmnljnimamaaTiLaw
import Derived.Test.YtgjdmnljnimamaaTiW8
import Derived.Test.YtgjdmnljnimamaaTiW9
namespace Go.Proofs.Ytgjdmnljnimamaa
open Go.Sx Go.RowKit
set_option maxHeartbeats 8000000 in
set_option maxRecDepth 100000 in
theorem tierBegun_ok  : Fn0 Try.prog 33 [] (fun _ => True) (.bool true) := by
  refine fn0 (nt := 87) (F0 := []) Try.func33 rfl Try.ntmps33 rfl rfl (fun w0 hpre => ?_)
  refine c_seq ?_
  refine c_region ?_
  refine o_pure (p_assign (v := .bool false) rfl) rfl rfl rfl ?_
  refine o_nil ?_
  refine q_then ?_
  refine c_seq ?_
  refine c_region ?_
  refine o_pure (p_build (cells := [.int .i64 2, .int .i64 1, .slice none 0 0, .slice none 0 0]) fp43 ze43 rfl rfl) rfl rfl rfl ?_
  refine o_buildSlice (m := 6) (T := tInt) (L := [1, 2, 2, 3, 1, 4]) (vs := [.int .i64 1, .int .i64 2, .int .i64 2, .int .i64 3, .int .i64 1, .int .i64 4]) rfl rfl rfl rfl Try.underlying23 sz3 (by decide) ze3 rfl (by decide) rfl (fun S1 a2 => ?_)
  refine o_callM rfl (trun_ok (⟨2, 1, [], []⟩ : DTiers) none 0 none 0 ([1, 2, 2, 3, 1, 4]) a2 ([1, 2, 2, 3, 1, 4].length)) hf28 (fun w hw => ⟨rd_nil w hw, rd_nil w hw, (rd_own (i := 0) rfl) w hw⟩) rfl (fun _ _ _ _ ha hA => ⟨SlR.agree ha hA.1, SlR.agree ha hA.2⟩) ?_
  rintro ⟨a6, c7, a8, c9⟩ S4
  refine o_know (fun w hw => (hw.at (i := 0) rfl).here.1.2.1) (fun hlr10 => ?_)
  refine o_know (fun w hw => (hw.at (i := 0) rfl).here.2.2.1) (fun hlr11 => ?_)
  refine o_pure (p_move (v := .tuple #[.agg #[.int .i64 (((Tier.run (⟨2, 1, [], []⟩ : DTiers) ([1, 2, 2, 3, 1, 4])).1).near), .int .i64 (((Tier.run (⟨2, 1, [], []⟩ : DTiers) ([1, 2, 2, 3, 1, 4])).1).far), .slice a6 (((Tier.run (⟨2, 1, [], []⟩ : DTiers) ([1, 2, 2, 3, 1, 4])).1).first).length c7, .slice a8 (((Tier.run (⟨2, 1, [], []⟩ : DTiers) ([1, 2, 2, 3, 1, 4])).1).rest).length c9], .int .i64 ((Tier.run (⟨2, 1, [], []⟩ : DTiers) ([1, 2, 2, 3, 1, 4])).2.1), .int .i64 ((Tier.run (⟨2, 1, [], []⟩ : DTiers) ([1, 2, 2, 3, 1, 4])).2.2), .int .i64 (Tier.runErr (⟨2, 1, [], []⟩ : DTiers) ([1, 2, 2, 3, 1, 4]))]) rfl) rfl rfl rfl ?_
  refine o_pure (p_extract (vs := [.agg #[.int .i64 (((Tier.run (⟨2, 1, [], []⟩ : DTiers) ([1, 2, 2, 3, 1, 4])).1).near), .int .i64 (((Tier.run (⟨2, 1, [], []⟩ : DTiers) ([1, 2, 2, 3, 1, 4])).1).far), .slice a6 (((Tier.run (⟨2, 1, [], []⟩ : DTiers) ([1, 2, 2, 3, 1, 4])).1).first).length c7, .slice a8 (((Tier.run (⟨2, 1, [], []⟩ : DTiers) ([1, 2, 2, 3, 1, 4])).1).rest).length c9], .int .i64 ((Tier.run (⟨2, 1, [], []⟩ : DTiers) ([1, 2, 2, 3, 1, 4])).2.1), .int .i64 ((Tier.run (⟨2, 1, [], []⟩ : DTiers) ([1, 2, 2, 3, 1, 4])).2.2), .int .i64 (Tier.runErr (⟨2, 1, [], []⟩ : DTiers) ([1, 2, 2, 3, 1, 4]))]) (v := .agg #[.int .i64 (((Tier.run (⟨2, 1, [], []⟩ : DTiers) ([1, 2, 2, 3, 1, 4])).1).near), .int .i64 (((Tier.run (⟨2, 1, [], []⟩ : DTiers) ([1, 2, 2, 3, 1, 4])).1).far), .slice a6 (((Tier.run (⟨2, 1, [], []⟩ : DTiers) ([1, 2, 2, 3, 1, 4])).1).first).length c7, .slice a8 (((Tier.run (⟨2, 1, [], []⟩ : DTiers) ([1, 2, 2, 3, 1, 4])).1).rest).length c9]) rfl rfl) rfl rfl rfl ?_
  refine o_pure (p_extract (vs := [.agg #[.int .i64 (((Tier.run (⟨2, 1, [], []⟩ : DTiers) ([1, 2, 2, 3, 1, 4])).1).near), .int .i64 (((Tier.run (⟨2, 1, [], []⟩ : DTiers) ([1, 2, 2, 3, 1, 4])).1).far), .slice a6 (((Tier.run (⟨2, 1, [], []⟩ : DTiers) ([1, 2, 2, 3, 1, 4])).1).first).length c7, .slice a8 (((Tier.run (⟨2, 1, [], []⟩ : DTiers) ([1, 2, 2, 3, 1, 4])).1).rest).length c9], .int .i64 ((Tier.run (⟨2, 1, [], []⟩ : DTiers) ([1, 2, 2, 3, 1, 4])).2.1), .int .i64 ((Tier.run (⟨2, 1, [], []⟩ : DTiers) ([1, 2, 2, 3, 1, 4])).2.2), .int .i64 (Tier.runErr (⟨2, 1, [], []⟩ : DTiers) ([1, 2, 2, 3, 1, 4]))]) (v := .int .i64 ((Tier.run (⟨2, 1, [], []⟩ : DTiers) ([1, 2, 2, 3, 1, 4])).2.1)) rfl rfl) rfl rfl rfl ?_
  refine o_pure (p_extract (vs := [.agg #[.int .i64 (((Tier.run (⟨2, 1, [], []⟩ : DTiers) ([1, 2, 2, 3, 1, 4])).1).near), .int .i64 (((Tier.run (⟨2, 1, [], []⟩ : DTiers) ([1, 2, 2, 3, 1, 4])).1).far), .slice a6 (((Tier.run (⟨2, 1, [], []⟩ : DTiers) ([1, 2, 2, 3, 1, 4])).1).first).length c7, .slice a8 (((Tier.run (⟨2, 1, [], []⟩ : DTiers) ([1, 2, 2, 3, 1, 4])).1).rest).length c9], .int .i64 ((Tier.run (⟨2, 1, [], []⟩ : DTiers) ([1, 2, 2, 3, 1, 4])).2.1), .int .i64 ((Tier.run (⟨2, 1, [], []⟩ : DTiers) ([1, 2, 2, 3, 1, 4])).2.2), .int .i64 (Tier.runErr (⟨2, 1, [], []⟩ : DTiers) ([1, 2, 2, 3, 1, 4]))]) (v := .int .i64 ((Tier.run (⟨2, 1, [], []⟩ : DTiers) ([1, 2, 2, 3, 1, 4])).2.2)) rfl rfl) rfl rfl rfl ?_
  refine o_pure (p_extract (vs := [.agg #[.int .i64 (((Tier.run (⟨2, 1, [], []⟩ : DTiers) ([1, 2, 2, 3, 1, 4])).1).near), .int .i64 (((Tier.run (⟨2, 1, [], []⟩ : DTiers) ([1, 2, 2, 3, 1, 4])).1).far), .slice a6 (((Tier.run (⟨2, 1, [], []⟩ : DTiers) ([1, 2, 2, 3, 1, 4])).1).first).length c7, .slice a8 (((Tier.run (⟨2, 1, [], []⟩ : DTiers) ([1, 2, 2, 3, 1, 4])).1).rest).length c9], .int .i64 ((Tier.run (⟨2, 1, [], []⟩ : DTiers) ([1, 2, 2, 3, 1, 4])).2.1), .int .i64 ((Tier.run (⟨2, 1, [], []⟩ : DTiers) ([1, 2, 2, 3, 1, 4])).2.2), .int .i64 (Tier.runErr (⟨2, 1, [], []⟩ : DTiers) ([1, 2, 2, 3, 1, 4]))]) (v := .int .i64 (Tier.runErr (⟨2, 1, [], []⟩ : DTiers) ([1, 2, 2, 3, 1, 4]))) rfl rfl) rfl rfl rfl ?_
  refine o_alloc ze43 rfl (fun B12 => ?_)
  refine o_storeN (i := 0) (vs := [.int .i64 (((Tier.run (⟨2, 1, [], []⟩ : DTiers) ([1, 2, 2, 3, 1, 4])).1).near), .int .i64 (((Tier.run (⟨2, 1, [], []⟩ : DTiers) ([1, 2, 2, 3, 1, 4])).1).far), .slice a6 (((Tier.run (⟨2, 1, [], []⟩ : DTiers) ([1, 2, 2, 3, 1, 4])).1).first).length c7, .slice a8 (((Tier.run (⟨2, 1, [], []⟩ : DTiers) ([1, 2, 2, 3, 1, 4])).1).rest).length c9]) (cs' := [.int .i64 (((Tier.run (⟨2, 1, [], []⟩ : DTiers) ([1, 2, 2, 3, 1, 4])).1).near), .int .i64 (((Tier.run (⟨2, 1, [], []⟩ : DTiers) ([1, 2, 2, 3, 1, 4])).1).far), .slice a6 (((Tier.run (⟨2, 1, [], []⟩ : DTiers) ([1, 2, 2, 3, 1, 4])).1).first).length c7, .slice a8 (((Tier.run (⟨2, 1, [], []⟩ : DTiers) ([1, 2, 2, 3, 1, 4])).1).rest).length c9]) rfl rfl rfl sz43 rfl rfl rfl rfl ?_
  refine o_pure (p_assign (v := .int .i64 ((Tier.run (⟨2, 1, [], []⟩ : DTiers) ([1, 2, 2, 3, 1, 4])).2.1)) rfl) rfl rfl rfl ?_
  refine o_pure (p_assign (v := .int .i64 ((Tier.run (⟨2, 1, [], []⟩ : DTiers) ([1, 2, 2, 3, 1, 4])).2.2)) rfl) rfl rfl rfl ?_
  refine o_pure (p_assign (v := .int .i64 (Tier.runErr (⟨2, 1, [], []⟩ : DTiers) ([1, 2, 2, 3, 1, 4]))) rfl) rfl rfl rfl ?_
  refine o_nil ?_
  refine q_then ?_
  refine c_seq ?_
  refine c_region ?_
  refine o_pure (p_load_agg (i := 0) (vs := [.int .i64 (((Tier.run (⟨2, 1, [], []⟩ : DTiers) ([1, 2, 2, 3, 1, 4])).1).near), .int .i64 (((Tier.run (⟨2, 1, [], []⟩ : DTiers) ([1, 2, 2, 3, 1, 4])).1).far), .slice a6 (((Tier.run (⟨2, 1, [], []⟩ : DTiers) ([1, 2, 2, 3, 1, 4])).1).first).length c7, .slice a8 (((Tier.run (⟨2, 1, [], []⟩ : DTiers) ([1, 2, 2, 3, 1, 4])).1).rest).length c9]) rfl rfl sh43 rfl rfl) rfl rfl rfl ?_
  refine o_callM rfl (taccess_ok ((Tier.run (⟨2, 1, [], []⟩ : DTiers) ([1, 2, 2, 3, 1, 4])).1) a6 c7 a8 c9 (5 : Int)) hf27 (fun w hw => ⟨(rd_ent (i := 1) rfl (fun w h => h.1)) w hw, (rd_ent (i := 1) rfl (fun w h => h.2)) w hw⟩) rfl (fun _ _ _ _ ha hA => ⟨SlR.agree ha hA.1, SlR.agree ha hA.2⟩) ?_
  rintro ⟨a15, c16, a17, c18⟩ S13
  refine o_know (fun w hw => (hw.at (i := 0) rfl).here.1.2.1) (fun hlr19 => ?_)
  refine o_know (fun w hw => (hw.at (i := 0) rfl).here.2.2.1) (fun hlr20 => ?_)
  refine o_pure (p_move (v := .tuple #[.agg #[.int .i64 (((Tier.access ((Tier.run (⟨2, 1, [], []⟩ : DTiers) ([1, 2, 2, 3, 1, 4])).1) (5 : Int)).1).near), .int .i64 (((Tier.access ((Tier.run (⟨2, 1, [], []⟩ : DTiers) ([1, 2, 2, 3, 1, 4])).1) (5 : Int)).1).far), .slice a15 (((Tier.access ((Tier.run (⟨2, 1, [], []⟩ : DTiers) ([1, 2, 2, 3, 1, 4])).1) (5 : Int)).1).first).length c16, .slice a17 (((Tier.access ((Tier.run (⟨2, 1, [], []⟩ : DTiers) ([1, 2, 2, 3, 1, 4])).1) (5 : Int)).1).rest).length c18], .int .i64 ((Tier.access ((Tier.run (⟨2, 1, [], []⟩ : DTiers) ([1, 2, 2, 3, 1, 4])).1) (5 : Int)).2.1), .int .i64 ((Tier.access ((Tier.run (⟨2, 1, [], []⟩ : DTiers) ([1, 2, 2, 3, 1, 4])).1) (5 : Int)).2.2), .int .i64 (Tier.accessErr ((Tier.run (⟨2, 1, [], []⟩ : DTiers) ([1, 2, 2, 3, 1, 4])).1) (5 : Int))]) rfl) rfl rfl rfl ?_
  refine o_pure (p_extract (vs := [.agg #[.int .i64 (((Tier.access ((Tier.run (⟨2, 1, [], []⟩ : DTiers) ([1, 2, 2, 3, 1, 4])).1) (5 : Int)).1).near), .int .i64 (((Tier.access ((Tier.run (⟨2, 1, [], []⟩ : DTiers) ([1, 2, 2, 3, 1, 4])).1) (5 : Int)).1).far), .slice a15 (((Tier.access ((Tier.run (⟨2, 1, [], []⟩ : DTiers) ([1, 2, 2, 3, 1, 4])).1) (5 : Int)).1).first).length c16, .slice a17 (((Tier.access ((Tier.run (⟨2, 1, [], []⟩ : DTiers) ([1, 2, 2, 3, 1, 4])).1) (5 : Int)).1).rest).length c18], .int .i64 ((Tier.access ((Tier.run (⟨2, 1, [], []⟩ : DTiers) ([1, 2, 2, 3, 1, 4])).1) (5 : Int)).2.1), .int .i64 ((Tier.access ((Tier.run (⟨2, 1, [], []⟩ : DTiers) ([1, 2, 2, 3, 1, 4])).1) (5 : Int)).2.2), .int .i64 (Tier.accessErr ((Tier.run (⟨2, 1, [], []⟩ : DTiers) ([1, 2, 2, 3, 1, 4])).1) (5 : Int))]) (v := .agg #[.int .i64 (((Tier.access ((Tier.run (⟨2, 1, [], []⟩ : DTiers) ([1, 2, 2, 3, 1, 4])).1) (5 : Int)).1).near), .int .i64 (((Tier.access ((Tier.run (⟨2, 1, [], []⟩ : DTiers) ([1, 2, 2, 3, 1, 4])).1) (5 : Int)).1).far), .slice a15 (((Tier.access ((Tier.run (⟨2, 1, [], []⟩ : DTiers) ([1, 2, 2, 3, 1, 4])).1) (5 : Int)).1).first).length c16, .slice a17 (((Tier.access ((Tier.run (⟨2, 1, [], []⟩ : DTiers) ([1, 2, 2, 3, 1, 4])).1) (5 : Int)).1).rest).length c18]) rfl rfl) rfl rfl rfl ?_
  refine o_pure (p_extract (vs := [.agg #[.int .i64 (((Tier.access ((Tier.run (⟨2, 1, [], []⟩ : DTiers) ([1, 2, 2, 3, 1, 4])).1) (5 : Int)).1).near), .int .i64 (((Tier.access ((Tier.run (⟨2, 1, [], []⟩ : DTiers) ([1, 2, 2, 3, 1, 4])).1) (5 : Int)).1).far), .slice a15 (((Tier.access ((Tier.run (⟨2, 1, [], []⟩ : DTiers) ([1, 2, 2, 3, 1, 4])).1) (5 : Int)).1).first).length c16, .slice a17 (((Tier.access ((Tier.run (⟨2, 1, [], []⟩ : DTiers) ([1, 2, 2, 3, 1, 4])).1) (5 : Int)).1).rest).length c18], .int .i64 ((Tier.access ((Tier.run (⟨2, 1, [], []⟩ : DTiers) ([1, 2, 2, 3, 1, 4])).1) (5 : Int)).2.1), .int .i64 ((Tier.access ((Tier.run (⟨2, 1, [], []⟩ : DTiers) ([1, 2, 2, 3, 1, 4])).1) (5 : Int)).2.2), .int .i64 (Tier.accessErr ((Tier.run (⟨2, 1, [], []⟩ : DTiers) ([1, 2, 2, 3, 1, 4])).1) (5 : Int))]) (v := .int .i64 ((Tier.access ((Tier.run (⟨2, 1, [], []⟩ : DTiers) ([1, 2, 2, 3, 1, 4])).1) (5 : Int)).2.1)) rfl rfl) rfl rfl rfl ?_
  refine o_pure (p_extract (vs := [.agg #[.int .i64 (((Tier.access ((Tier.run (⟨2, 1, [], []⟩ : DTiers) ([1, 2, 2, 3, 1, 4])).1) (5 : Int)).1).near), .int .i64 (((Tier.access ((Tier.run (⟨2, 1, [], []⟩ : DTiers) ([1, 2, 2, 3, 1, 4])).1) (5 : Int)).1).far), .slice a15 (((Tier.access ((Tier.run (⟨2, 1, [], []⟩ : DTiers) ([1, 2, 2, 3, 1, 4])).1) (5 : Int)).1).first).length c16, .slice a17 (((Tier.access ((Tier.run (⟨2, 1, [], []⟩ : DTiers) ([1, 2, 2, 3, 1, 4])).1) (5 : Int)).1).rest).length c18], .int .i64 ((Tier.access ((Tier.run (⟨2, 1, [], []⟩ : DTiers) ([1, 2, 2, 3, 1, 4])).1) (5 : Int)).2.1), .int .i64 ((Tier.access ((Tier.run (⟨2, 1, [], []⟩ : DTiers) ([1, 2, 2, 3, 1, 4])).1) (5 : Int)).2.2), .int .i64 (Tier.accessErr ((Tier.run (⟨2, 1, [], []⟩ : DTiers) ([1, 2, 2, 3, 1, 4])).1) (5 : Int))]) (v := .int .i64 ((Tier.access ((Tier.run (⟨2, 1, [], []⟩ : DTiers) ([1, 2, 2, 3, 1, 4])).1) (5 : Int)).2.2)) rfl rfl) rfl rfl rfl ?_
  refine o_pure (p_extract (vs := [.agg #[.int .i64 (((Tier.access ((Tier.run (⟨2, 1, [], []⟩ : DTiers) ([1, 2, 2, 3, 1, 4])).1) (5 : Int)).1).near), .int .i64 (((Tier.access ((Tier.run (⟨2, 1, [], []⟩ : DTiers) ([1, 2, 2, 3, 1, 4])).1) (5 : Int)).1).far), .slice a15 (((Tier.access ((Tier.run (⟨2, 1, [], []⟩ : DTiers) ([1, 2, 2, 3, 1, 4])).1) (5 : Int)).1).first).length c16, .slice a17 (((Tier.access ((Tier.run (⟨2, 1, [], []⟩ : DTiers) ([1, 2, 2, 3, 1, 4])).1) (5 : Int)).1).rest).length c18], .int .i64 ((Tier.access ((Tier.run (⟨2, 1, [], []⟩ : DTiers) ([1, 2, 2, 3, 1, 4])).1) (5 : Int)).2.1), .int .i64 ((Tier.access ((Tier.run (⟨2, 1, [], []⟩ : DTiers) ([1, 2, 2, 3, 1, 4])).1) (5 : Int)).2.2), .int .i64 (Tier.accessErr ((Tier.run (⟨2, 1, [], []⟩ : DTiers) ([1, 2, 2, 3, 1, 4])).1) (5 : Int))]) (v := .int .i64 (Tier.accessErr ((Tier.run (⟨2, 1, [], []⟩ : DTiers) ([1, 2, 2, 3, 1, 4])).1) (5 : Int))) rfl rfl) rfl rfl rfl ?_
  refine o_alloc ze43 rfl (fun B21 => ?_)
  refine o_storeN (i := 0) (vs := [.int .i64 (((Tier.access ((Tier.run (⟨2, 1, [], []⟩ : DTiers) ([1, 2, 2, 3, 1, 4])).1) (5 : Int)).1).near), .int .i64 (((Tier.access ((Tier.run (⟨2, 1, [], []⟩ : DTiers) ([1, 2, 2, 3, 1, 4])).1) (5 : Int)).1).far), .slice a15 (((Tier.access ((Tier.run (⟨2, 1, [], []⟩ : DTiers) ([1, 2, 2, 3, 1, 4])).1) (5 : Int)).1).first).length c16, .slice a17 (((Tier.access ((Tier.run (⟨2, 1, [], []⟩ : DTiers) ([1, 2, 2, 3, 1, 4])).1) (5 : Int)).1).rest).length c18]) (cs' := [.int .i64 (((Tier.access ((Tier.run (⟨2, 1, [], []⟩ : DTiers) ([1, 2, 2, 3, 1, 4])).1) (5 : Int)).1).near), .int .i64 (((Tier.access ((Tier.run (⟨2, 1, [], []⟩ : DTiers) ([1, 2, 2, 3, 1, 4])).1) (5 : Int)).1).far), .slice a15 (((Tier.access ((Tier.run (⟨2, 1, [], []⟩ : DTiers) ([1, 2, 2, 3, 1, 4])).1) (5 : Int)).1).first).length c16, .slice a17 (((Tier.access ((Tier.run (⟨2, 1, [], []⟩ : DTiers) ([1, 2, 2, 3, 1, 4])).1) (5 : Int)).1).rest).length c18]) rfl rfl rfl sz43 rfl rfl rfl rfl ?_
  refine o_pure (p_assign (v := .int .i64 ((Tier.access ((Tier.run (⟨2, 1, [], []⟩ : DTiers) ([1, 2, 2, 3, 1, 4])).1) (5 : Int)).2.1)) rfl) rfl rfl rfl ?_
  refine o_pure (p_assign (v := .int .i64 ((Tier.access ((Tier.run (⟨2, 1, [], []⟩ : DTiers) ([1, 2, 2, 3, 1, 4])).1) (5 : Int)).2.2)) rfl) rfl rfl rfl ?_
  refine o_pure (p_assign (v := .int .i64 (Tier.accessErr ((Tier.run (⟨2, 1, [], []⟩ : DTiers) ([1, 2, 2, 3, 1, 4])).1) (5 : Int))) rfl) rfl rfl rfl ?_
  refine o_nil ?_
  refine q_then ?_
  refine c_seq ?_
  refine c_region ?_
  refine o_pure (p_load_agg (i := 2) (vs := [.int .i64 (((Tier.run (⟨2, 1, [], []⟩ : DTiers) ([1, 2, 2, 3, 1, 4])).1).near), .int .i64 (((Tier.run (⟨2, 1, [], []⟩ : DTiers) ([1, 2, 2, 3, 1, 4])).1).far), .slice a6 (((Tier.run (⟨2, 1, [], []⟩ : DTiers) ([1, 2, 2, 3, 1, 4])).1).first).length c7, .slice a8 (((Tier.run (⟨2, 1, [], []⟩ : DTiers) ([1, 2, 2, 3, 1, 4])).1).rest).length c9]) rfl rfl sh43 rfl rfl) rfl rfl rfl ?_
  refine o_callM rfl (tmerged_ok ((Tier.run (⟨2, 1, [], []⟩ : DTiers) ([1, 2, 2, 3, 1, 4])).1) a6 c7 a8 c9) hf29 (fun w hw => ⟨(rd_ent (i := 3) rfl (fun w h => h.1)) w hw, (rd_ent (i := 3) rfl (fun w h => h.2)) w hw⟩) rfl (fun _ _ _ _ ha hA => SlO.agree ha hA) ?_
  rintro ⟨a24, c25⟩ S22
  refine o_know (fun w hw => own_len (i := 0) (T := tInt) hw rfl) (fun hlr26 => ?_)
  refine o_pure (p_move (v := .tuple #[.agg #[.int .i64 ((Tier.merged ((Tier.run (⟨2, 1, [], []⟩ : DTiers) ([1, 2, 2, 3, 1, 4])).1)).room), .slice a24 ((Tier.merged ((Tier.run (⟨2, 1, [], []⟩ : DTiers) ([1, 2, 2, 3, 1, 4])).1)).keys).length c25], .int .i64 (Tier.check ((Tier.run (⟨2, 1, [], []⟩ : DTiers) ([1, 2, 2, 3, 1, 4])).1))]) rfl) rfl rfl rfl ?_
  refine o_pure (p_extract (vs := [.agg #[.int .i64 ((Tier.merged ((Tier.run (⟨2, 1, [], []⟩ : DTiers) ([1, 2, 2, 3, 1, 4])).1)).room), .slice a24 ((Tier.merged ((Tier.run (⟨2, 1, [], []⟩ : DTiers) ([1, 2, 2, 3, 1, 4])).1)).keys).length c25], .int .i64 (Tier.check ((Tier.run (⟨2, 1, [], []⟩ : DTiers) ([1, 2, 2, 3, 1, 4])).1))]) (v := .agg #[.int .i64 ((Tier.merged ((Tier.run (⟨2, 1, [], []⟩ : DTiers) ([1, 2, 2, 3, 1, 4])).1)).room), .slice a24 ((Tier.merged ((Tier.run (⟨2, 1, [], []⟩ : DTiers) ([1, 2, 2, 3, 1, 4])).1)).keys).length c25]) rfl rfl) rfl rfl rfl ?_
  refine o_pure (p_extract (vs := [.agg #[.int .i64 ((Tier.merged ((Tier.run (⟨2, 1, [], []⟩ : DTiers) ([1, 2, 2, 3, 1, 4])).1)).room), .slice a24 ((Tier.merged ((Tier.run (⟨2, 1, [], []⟩ : DTiers) ([1, 2, 2, 3, 1, 4])).1)).keys).length c25], .int .i64 (Tier.check ((Tier.run (⟨2, 1, [], []⟩ : DTiers) ([1, 2, 2, 3, 1, 4])).1))]) (v := .int .i64 (Tier.check ((Tier.run (⟨2, 1, [], []⟩ : DTiers) ([1, 2, 2, 3, 1, 4])).1))) rfl rfl) rfl rfl rfl ?_
  refine o_alloc ze48 rfl (fun B27 => ?_)
  refine o_storeN (i := 0) (vs := [.int .i64 ((Tier.merged ((Tier.run (⟨2, 1, [], []⟩ : DTiers) ([1, 2, 2, 3, 1, 4])).1)).room), .slice a24 ((Tier.merged ((Tier.run (⟨2, 1, [], []⟩ : DTiers) ([1, 2, 2, 3, 1, 4])).1)).keys).length c25]) (cs' := [.int .i64 ((Tier.merged ((Tier.run (⟨2, 1, [], []⟩ : DTiers) ([1, 2, 2, 3, 1, 4])).1)).room), .slice a24 ((Tier.merged ((Tier.run (⟨2, 1, [], []⟩ : DTiers) ([1, 2, 2, 3, 1, 4])).1)).keys).length c25]) rfl rfl rfl sz48 rfl rfl rfl rfl ?_
  refine o_pure (p_assign (v := .int .i64 (Tier.check ((Tier.run (⟨2, 1, [], []⟩ : DTiers) ([1, 2, 2, 3, 1, 4])).1))) rfl) rfl rfl rfl ?_
  refine o_nil ?_
  refine q_then ?_
  refine c_seq ?_
  refine c_region ?_
  refine o_pure (p_load_agg (i := 4) (vs := [.int .i64 (((Tier.run (⟨2, 1, [], []⟩ : DTiers) ([1, 2, 2, 3, 1, 4])).1).near), .int .i64 (((Tier.run (⟨2, 1, [], []⟩ : DTiers) ([1, 2, 2, 3, 1, 4])).1).far), .slice a6 (((Tier.run (⟨2, 1, [], []⟩ : DTiers) ([1, 2, 2, 3, 1, 4])).1).first).length c7, .slice a8 (((Tier.run (⟨2, 1, [], []⟩ : DTiers) ([1, 2, 2, 3, 1, 4])).1).rest).length c9]) rfl rfl sh43 rfl rfl) rfl rfl rfl ?_
  refine o_buildSlice (m := 2) (T := tInt) (L := [4, 1]) (vs := [.int .i64 4, .int .i64 1]) rfl rfl rfl rfl Try.underlying23 sz3 (by decide) ze3 rfl (by decide) rfl (fun S28 a29 => ?_)
  refine o_buildSlice (m := 1) (T := tInt) (L := [3]) (vs := [.int .i64 3]) rfl rfl rfl rfl Try.underlying23 sz3 (by decide) ze3 rfl (by decide) rfl (fun S31 a32 => ?_)
  refine o_pure (p_build (cells := [.int .i64 2, .int .i64 1, .slice a29 ([4, 1]).length ([4, 1].length), .slice a32 ([3]).length ([3].length)]) fp43 ze43 rfl rfl) rfl rfl rfl ?_
  refine o_call0 (v := .bool (decide (((Tier.run (⟨2, 1, [], []⟩ : DTiers) ([1, 2, 2, 3, 1, 4])).1) = (⟨2, 1, [4, 1], [3]⟩ : DTiers)))) rfl (sameTiers_ok ((Tier.run (⟨2, 1, [], []⟩ : DTiers) ([1, 2, 2, 3, 1, 4])).1) a6 c7 a8 c9 (⟨2, 1, [4, 1], [3]⟩ : DTiers) a29 ([4, 1].length) a32 ([3].length)) hf35 (fun w hw => ⟨(rd_ent (i := 7) rfl (fun w h => h.1)) w hw, (rd_ent (i := 7) rfl (fun w h => h.2)) w hw, (rd_own (i := 1) rfl) w hw, (rd_own (i := 0) rfl) w hw⟩) rfl ?_
  refine o_pure (p_move (v := .bool (decide (((Tier.run (⟨2, 1, [], []⟩ : DTiers) ([1, 2, 2, 3, 1, 4])).1) = (⟨2, 1, [4, 1], [3]⟩ : DTiers)))) rfl) rfl rfl rfl ?_
  refine o_and (p := 39) 3 (((Tier.run (⟨2, 1, [], []⟩ : DTiers) ([1, 2, 2, 3, 1, 4])).2.1) == 1) ?_ ?_ ?_
  · intro hb34 hk
    simp only [decide_eq_true_eq] at hb34
    refine o_unguard 36 rfl rfl ?_
    refine o_pure (p_move (v := .int .i64 ((Tier.run (⟨2, 1, [], []⟩ : DTiers) ([1, 2, 2, 3, 1, 4])).2.1)) rfl) rfl rfl rfl ?_
    refine o_unguard 36 rfl rfl ?_
    refine o_pure (p_eq (p := ((Tier.run (⟨2, 1, [], []⟩ : DTiers) ([1, 2, 2, 3, 1, 4])).2.1)) (q := 1) rfl rfl) rfl rfl rfl ?_
    refine o_pure (p_pick_true (u := .bool (((Tier.run (⟨2, 1, [], []⟩ : DTiers) ([1, 2, 2, 3, 1, 4])).2.1) == 1)) rfl rfl) rfl rfl rfl ?_
    exact o_sub (Sub.cons rfl (Sub.skip rfl (Sub.skip rfl (Sub.skip rfl (Sub.skip rfl (Sub.refl _)))))) hk
  · intro hb34 hk
    refine o_guard_no rfl 36 rfl rfl rfl rfl rfl ?_
    refine o_guard_no rfl 36 rfl rfl rfl rfl rfl ?_
    refine o_pure (p_pick_false (v := .bool false) rfl rfl) rfl rfl rfl ?_
    exact o_sub (Sub.cons rfl (Sub.skip rfl (Sub.skip rfl (Sub.skip rfl (Sub.skip rfl (Sub.refl _)))))) hk
  refine o_pure (p_move (v := .bool ((decide (((Tier.run (⟨2, 1, [], []⟩ : DTiers) ([1, 2, 2, 3, 1, 4])).1) = (⟨2, 1, [4, 1], [3]⟩ : DTiers))) && (((Tier.run (⟨2, 1, [], []⟩ : DTiers) ([1, 2, 2, 3, 1, 4])).2.1) == 1))) rfl) rfl rfl rfl ?_
  refine o_and (p := 43) 3 (((Tier.run (⟨2, 1, [], []⟩ : DTiers) ([1, 2, 2, 3, 1, 4])).2.2) == 1) ?_ ?_ ?_
  · intro hb35 hk
    simp only [Bool.and_eq_true, decide_eq_true_eq, beq_iff_eq] at hb35
    refine o_unguard 40 rfl rfl ?_
    refine o_pure (p_move (v := .int .i64 ((Tier.run (⟨2, 1, [], []⟩ : DTiers) ([1, 2, 2, 3, 1, 4])).2.2)) rfl) rfl rfl rfl ?_
    refine o_unguard 40 rfl rfl ?_
    refine o_pure (p_eq (p := ((Tier.run (⟨2, 1, [], []⟩ : DTiers) ([1, 2, 2, 3, 1, 4])).2.2)) (q := 1) rfl rfl) rfl rfl rfl ?_
    refine o_pure (p_pick_true (u := .bool (((Tier.run (⟨2, 1, [], []⟩ : DTiers) ([1, 2, 2, 3, 1, 4])).2.2) == 1)) rfl rfl) rfl rfl rfl ?_
    exact o_sub (Sub.cons rfl (Sub.skip rfl (Sub.skip rfl (Sub.skip rfl (Sub.skip rfl (Sub.refl _)))))) hk
  · intro hb35 hk
    refine o_guard_no rfl 40 rfl rfl rfl rfl rfl ?_
    refine o_guard_no rfl 40 rfl rfl rfl rfl rfl ?_
    refine o_pure (p_pick_false (v := .bool false) rfl rfl) rfl rfl rfl ?_
    exact o_sub (Sub.cons rfl (Sub.skip rfl (Sub.skip rfl (Sub.skip rfl (Sub.skip rfl (Sub.refl _)))))) hk
  refine o_pure (p_move (v := .bool (((decide (((Tier.run (⟨2, 1, [], []⟩ : DTiers) ([1, 2, 2, 3, 1, 4])).1) = (⟨2, 1, [4, 1], [3]⟩ : DTiers))) && (((Tier.run (⟨2, 1, [], []⟩ : DTiers) ([1, 2, 2, 3, 1, 4])).2.1) == 1)) && (((Tier.run (⟨2, 1, [], []⟩ : DTiers) ([1, 2, 2, 3, 1, 4])).2.2) == 1))) rfl) rfl rfl rfl ?_
  refine o_and (p := 47) 3 ((Tier.runErr (⟨2, 1, [], []⟩ : DTiers) ([1, 2, 2, 3, 1, 4])) == 0) ?_ ?_ ?_
  · intro hb36 hk
    simp only [Bool.and_eq_true, decide_eq_true_eq, beq_iff_eq] at hb36
    refine o_unguard 44 rfl rfl ?_
    refine o_pure (p_move (v := .int .i64 (Tier.runErr (⟨2, 1, [], []⟩ : DTiers) ([1, 2, 2, 3, 1, 4]))) rfl) rfl rfl rfl ?_
    refine o_unguard 44 rfl rfl ?_
    refine o_pure (p_eq (p := (Tier.runErr (⟨2, 1, [], []⟩ : DTiers) ([1, 2, 2, 3, 1, 4]))) (q := 0) rfl rfl) rfl rfl rfl ?_
    refine o_pure (p_pick_true (u := .bool ((Tier.runErr (⟨2, 1, [], []⟩ : DTiers) ([1, 2, 2, 3, 1, 4])) == 0)) rfl rfl) rfl rfl rfl ?_
    exact o_sub (Sub.cons rfl (Sub.skip rfl (Sub.skip rfl (Sub.skip rfl (Sub.skip rfl (Sub.refl _)))))) hk
  · intro hb36 hk
    refine o_guard_no rfl 44 rfl rfl rfl rfl rfl ?_
    refine o_guard_no rfl 44 rfl rfl rfl rfl rfl ?_
    refine o_pure (p_pick_false (v := .bool false) rfl rfl) rfl rfl rfl ?_
    exact o_sub (Sub.cons rfl (Sub.skip rfl (Sub.skip rfl (Sub.skip rfl (Sub.skip rfl (Sub.refl _)))))) hk
  refine o_pure (p_move (v := .bool ((((decide (((Tier.run (⟨2, 1, [], []⟩ : DTiers) ([1, 2, 2, 3, 1, 4])).1) = (⟨2, 1, [4, 1], [3]⟩ : DTiers))) && (((Tier.run (⟨2, 1, [], []⟩ : DTiers) ([1, 2, 2, 3, 1, 4])).2.1) == 1)) && (((Tier.run (⟨2, 1, [], []⟩ : DTiers) ([1, 2, 2, 3, 1, 4])).2.2) == 1)) && ((Tier.runErr (⟨2, 1, [], []⟩ : DTiers) ([1, 2, 2, 3, 1, 4])) == 0))) rfl) rfl rfl rfl ?_
  refine o_and (p := 51) 3 (((Tier.access ((Tier.run (⟨2, 1, [], []⟩ : DTiers) ([1, 2, 2, 3, 1, 4])).1) (5 : Int)).2.1) == 0) ?_ ?_ ?_
  · intro hb37 hk
    simp only [Bool.and_eq_true, decide_eq_true_eq, beq_iff_eq] at hb37
    refine o_unguard 48 rfl rfl ?_
    refine o_pure (p_move (v := .int .i64 ((Tier.access ((Tier.run (⟨2, 1, [], []⟩ : DTiers) ([1, 2, 2, 3, 1, 4])).1) (5 : Int)).2.1)) rfl) rfl rfl rfl ?_
    refine o_unguard 48 rfl rfl ?_
    refine o_pure (p_eq (p := ((Tier.access ((Tier.run (⟨2, 1, [], []⟩ : DTiers) ([1, 2, 2, 3, 1, 4])).1) (5 : Int)).2.1)) (q := 0) rfl rfl) rfl rfl rfl ?_
    refine o_pure (p_pick_true (u := .bool (((Tier.access ((Tier.run (⟨2, 1, [], []⟩ : DTiers) ([1, 2, 2, 3, 1, 4])).1) (5 : Int)).2.1) == 0)) rfl rfl) rfl rfl rfl ?_
    exact o_sub (Sub.cons rfl (Sub.skip rfl (Sub.skip rfl (Sub.skip rfl (Sub.skip rfl (Sub.refl _)))))) hk
  · intro hb37 hk
    refine o_guard_no rfl 48 rfl rfl rfl rfl rfl ?_
    refine o_guard_no rfl 48 rfl rfl rfl rfl rfl ?_
    refine o_pure (p_pick_false (v := .bool false) rfl rfl) rfl rfl rfl ?_
    exact o_sub (Sub.cons rfl (Sub.skip rfl (Sub.skip rfl (Sub.skip rfl (Sub.skip rfl (Sub.refl _)))))) hk
  refine o_pure (p_move (v := .bool (((((decide (((Tier.run (⟨2, 1, [], []⟩ : DTiers) ([1, 2, 2, 3, 1, 4])).1) = (⟨2, 1, [4, 1], [3]⟩ : DTiers))) && (((Tier.run (⟨2, 1, [], []⟩ : DTiers) ([1, 2, 2, 3, 1, 4])).2.1) == 1)) && (((Tier.run (⟨2, 1, [], []⟩ : DTiers) ([1, 2, 2, 3, 1, 4])).2.2) == 1)) && ((Tier.runErr (⟨2, 1, [], []⟩ : DTiers) ([1, 2, 2, 3, 1, 4])) == 0)) && (((Tier.access ((Tier.run (⟨2, 1, [], []⟩ : DTiers) ([1, 2, 2, 3, 1, 4])).1) (5 : Int)).2.1) == 0))) rfl) rfl rfl rfl ?_
  refine o_and (p := 55) 3 (((Tier.access ((Tier.run (⟨2, 1, [], []⟩ : DTiers) ([1, 2, 2, 3, 1, 4])).1) (5 : Int)).2.2) == 3) ?_ ?_ ?_
  · intro hb38 hk
    simp only [Bool.and_eq_true, decide_eq_true_eq, beq_iff_eq] at hb38
    refine o_unguard 52 rfl rfl ?_
    refine o_pure (p_move (v := .int .i64 ((Tier.access ((Tier.run (⟨2, 1, [], []⟩ : DTiers) ([1, 2, 2, 3, 1, 4])).1) (5 : Int)).2.2)) rfl) rfl rfl rfl ?_
    refine o_unguard 52 rfl rfl ?_
    refine o_pure (p_eq (p := ((Tier.access ((Tier.run (⟨2, 1, [], []⟩ : DTiers) ([1, 2, 2, 3, 1, 4])).1) (5 : Int)).2.2)) (q := 3) rfl rfl) rfl rfl rfl ?_
    refine o_pure (p_pick_true (u := .bool (((Tier.access ((Tier.run (⟨2, 1, [], []⟩ : DTiers) ([1, 2, 2, 3, 1, 4])).1) (5 : Int)).2.2) == 3)) rfl rfl) rfl rfl rfl ?_
    exact o_sub (Sub.cons rfl (Sub.skip rfl (Sub.skip rfl (Sub.skip rfl (Sub.skip rfl (Sub.refl _)))))) hk
  · intro hb38 hk
    refine o_guard_no rfl 52 rfl rfl rfl rfl rfl ?_
    refine o_guard_no rfl 52 rfl rfl rfl rfl rfl ?_
    refine o_pure (p_pick_false (v := .bool false) rfl rfl) rfl rfl rfl ?_
    exact o_sub (Sub.cons rfl (Sub.skip rfl (Sub.skip rfl (Sub.skip rfl (Sub.skip rfl (Sub.refl _)))))) hk
  refine o_pure (p_move (v := .bool ((((((decide (((Tier.run (⟨2, 1, [], []⟩ : DTiers) ([1, 2, 2, 3, 1, 4])).1) = (⟨2, 1, [4, 1], [3]⟩ : DTiers))) && (((Tier.run (⟨2, 1, [], []⟩ : DTiers) ([1, 2, 2, 3, 1, 4])).2.1) == 1)) && (((Tier.run (⟨2, 1, [], []⟩ : DTiers) ([1, 2, 2, 3, 1, 4])).2.2) == 1)) && ((Tier.runErr (⟨2, 1, [], []⟩ : DTiers) ([1, 2, 2, 3, 1, 4])) == 0)) && (((Tier.access ((Tier.run (⟨2, 1, [], []⟩ : DTiers) ([1, 2, 2, 3, 1, 4])).1) (5 : Int)).2.1) == 0)) && (((Tier.access ((Tier.run (⟨2, 1, [], []⟩ : DTiers) ([1, 2, 2, 3, 1, 4])).1) (5 : Int)).2.2) == 3))) rfl) rfl rfl rfl ?_
  refine o_and (p := 61) 5 (Ref.sameInts (((Tier.access ((Tier.run (⟨2, 1, [], []⟩ : DTiers) ([1, 2, 2, 3, 1, 4])).1) (5 : Int)).1).rest) ([1])) ?_ ?_ ?_
  · intro hb39 hk
    simp only [Bool.and_eq_true, decide_eq_true_eq, beq_iff_eq] at hb39
    refine o_unguard 56 rfl rfl ?_
    refine o_pure (p_fieldAddr (B := B21) (j := 0) (j' := 3) rfl fo43_3 rfl) rfl rfl rfl ?_
    refine o_unguard 56 rfl rfl ?_
    refine o_pure (p_load (i := 4) (v := .slice a17 (((Tier.access ((Tier.run (⟨2, 1, [], []⟩ : DTiers) ([1, 2, 2, 3, 1, 4])).1) (5 : Int)).1).rest).length c18) rfl rfl sh23 rfl) rfl rfl rfl ?_
    refine o_unguard 56 rfl rfl ?_
    refine o_buildSlice (m := 1) (T := tInt) (L := [1]) (vs := [.int .i64 1]) rfl rfl rfl rfl Try.underlying23 sz3 (by decide) ze3 rfl (by decide) rfl (fun S40 a41 => ?_)
    refine o_unguard 56 rfl rfl ?_
    refine o_call0 (v := .bool (Ref.sameInts (((Tier.access ((Tier.run (⟨2, 1, [], []⟩ : DTiers) ([1, 2, 2, 3, 1, 4])).1) (5 : Int)).1).rest) ([1]))) rfl (sameInts_ok (((Tier.access ((Tier.run (⟨2, 1, [], []⟩ : DTiers) ([1, 2, 2, 3, 1, 4])).1) (5 : Int)).1).rest) a17 c18 ([1]) a41 ([1].length)) hf26 (fun w hw => ⟨(rd_ent (i := 6) rfl (fun w h => h.2)) w hw, (rd_own (i := 0) rfl) w hw⟩) rfl ?_
    refine o_pure (p_pick_true (u := .bool (Ref.sameInts (((Tier.access ((Tier.run (⟨2, 1, [], []⟩ : DTiers) ([1, 2, 2, 3, 1, 4])).1) (5 : Int)).1).rest) ([1]))) rfl rfl) rfl rfl rfl ?_
    exact o_sub (Sub.cons rfl (Sub.skip rfl (Sub.skip rfl (Sub.skip rfl (Sub.skip rfl (Sub.skip rfl (Sub.skip rfl (Sub.refl _)))))))) (o_drop (List.Sublist.cons _ (List.Sublist.cons_cons _ (List.Sublist.cons_cons _ (List.Sublist.cons_cons _ (List.Sublist.cons_cons _ (List.Sublist.cons_cons _ (List.Sublist.cons_cons _ (List.Sublist.cons_cons _ (List.Sublist.cons_cons _ (List.Sublist.cons_cons _ (List.Sublist.cons_cons _ (List.Sublist.slnil)))))))))))) hk)
  · intro hb39 hk
    refine o_guard_no rfl 56 rfl rfl rfl rfl rfl ?_
    refine o_guard_no rfl 56 rfl rfl rfl rfl rfl ?_
    refine o_guard_no rfl 56 rfl rfl rfl rfl rfl ?_
    refine o_guard_no rfl 56 rfl rfl rfl rfl rfl ?_
    refine o_pure (p_pick_false (v := .bool false) rfl rfl) rfl rfl rfl ?_
    exact o_sub (Sub.cons rfl (Sub.skip rfl (Sub.skip rfl (Sub.skip rfl (Sub.skip rfl (Sub.skip rfl (Sub.skip rfl (Sub.refl _)))))))) hk
  refine o_pure (p_move (v := .bool (((((((decide (((Tier.run (⟨2, 1, [], []⟩ : DTiers) ([1, 2, 2, 3, 1, 4])).1) = (⟨2, 1, [4, 1], [3]⟩ : DTiers))) && (((Tier.run (⟨2, 1, [], []⟩ : DTiers) ([1, 2, 2, 3, 1, 4])).2.1) == 1)) && (((Tier.run (⟨2, 1, [], []⟩ : DTiers) ([1, 2, 2, 3, 1, 4])).2.2) == 1)) && ((Tier.runErr (⟨2, 1, [], []⟩ : DTiers) ([1, 2, 2, 3, 1, 4])) == 0)) && (((Tier.access ((Tier.run (⟨2, 1, [], []⟩ : DTiers) ([1, 2, 2, 3, 1, 4])).1) (5 : Int)).2.1) == 0)) && (((Tier.access ((Tier.run (⟨2, 1, [], []⟩ : DTiers) ([1, 2, 2, 3, 1, 4])).1) (5 : Int)).2.2) == 3)) && (Ref.sameInts (((Tier.access ((Tier.run (⟨2, 1, [], []⟩ : DTiers) ([1, 2, 2, 3, 1, 4])).1) (5 : Int)).1).rest) ([1])))) rfl) rfl rfl rfl ?_
  refine o_and (p := 65) 3 ((Tier.accessErr ((Tier.run (⟨2, 1, [], []⟩ : DTiers) ([1, 2, 2, 3, 1, 4])).1) (5 : Int)) == 0) ?_ ?_ ?_
  · intro hb43 hk
    simp only [Bool.and_eq_true, decide_eq_true_eq, beq_iff_eq] at hb43
    refine o_unguard 62 rfl rfl ?_
    refine o_pure (p_move (v := .int .i64 (Tier.accessErr ((Tier.run (⟨2, 1, [], []⟩ : DTiers) ([1, 2, 2, 3, 1, 4])).1) (5 : Int))) rfl) rfl rfl rfl ?_
    refine o_unguard 62 rfl rfl ?_
    refine o_pure (p_eq (p := (Tier.accessErr ((Tier.run (⟨2, 1, [], []⟩ : DTiers) ([1, 2, 2, 3, 1, 4])).1) (5 : Int))) (q := 0) rfl rfl) rfl rfl rfl ?_
    refine o_pure (p_pick_true (u := .bool ((Tier.accessErr ((Tier.run (⟨2, 1, [], []⟩ : DTiers) ([1, 2, 2, 3, 1, 4])).1) (5 : Int)) == 0)) rfl rfl) rfl rfl rfl ?_
    exact o_sub (Sub.cons rfl (Sub.skip rfl (Sub.skip rfl (Sub.skip rfl (Sub.skip rfl (Sub.refl _)))))) hk
  · intro hb43 hk
    refine o_guard_no rfl 62 rfl rfl rfl rfl rfl ?_
    refine o_guard_no rfl 62 rfl rfl rfl rfl rfl ?_
    refine o_pure (p_pick_false (v := .bool false) rfl rfl) rfl rfl rfl ?_
    exact o_sub (Sub.cons rfl (Sub.skip rfl (Sub.skip rfl (Sub.skip rfl (Sub.skip rfl (Sub.refl _)))))) hk
  refine o_pure (p_move (v := .bool ((((((((decide (((Tier.run (⟨2, 1, [], []⟩ : DTiers) ([1, 2, 2, 3, 1, 4])).1) = (⟨2, 1, [4, 1], [3]⟩ : DTiers))) && (((Tier.run (⟨2, 1, [], []⟩ : DTiers) ([1, 2, 2, 3, 1, 4])).2.1) == 1)) && (((Tier.run (⟨2, 1, [], []⟩ : DTiers) ([1, 2, 2, 3, 1, 4])).2.2) == 1)) && ((Tier.runErr (⟨2, 1, [], []⟩ : DTiers) ([1, 2, 2, 3, 1, 4])) == 0)) && (((Tier.access ((Tier.run (⟨2, 1, [], []⟩ : DTiers) ([1, 2, 2, 3, 1, 4])).1) (5 : Int)).2.1) == 0)) && (((Tier.access ((Tier.run (⟨2, 1, [], []⟩ : DTiers) ([1, 2, 2, 3, 1, 4])).1) (5 : Int)).2.2) == 3)) && (Ref.sameInts (((Tier.access ((Tier.run (⟨2, 1, [], []⟩ : DTiers) ([1, 2, 2, 3, 1, 4])).1) (5 : Int)).1).rest) ([1]))) && ((Tier.accessErr ((Tier.run (⟨2, 1, [], []⟩ : DTiers) ([1, 2, 2, 3, 1, 4])).1) (5 : Int)) == 0))) rfl) rfl rfl rfl ?_
  refine o_and (p := 70) 4 ((Tier.merged ((Tier.run (⟨2, 1, [], []⟩ : DTiers) ([1, 2, 2, 3, 1, 4])).1)).room == 3) ?_ ?_ ?_
  · intro hb44 hk
    simp only [Bool.and_eq_true, decide_eq_true_eq, beq_iff_eq] at hb44
    refine o_unguard 66 rfl rfl ?_
    refine o_pure (p_fieldAddr (B := B27) (j := 0) (j' := 0) rfl fo48_0 rfl) rfl rfl rfl ?_
    refine o_unguard 66 rfl rfl ?_
    refine o_pure (p_load (i := 2) (v := .int .i64 ((Tier.merged ((Tier.run (⟨2, 1, [], []⟩ : DTiers) ([1, 2, 2, 3, 1, 4])).1)).room)) rfl rfl sh3 rfl) rfl rfl rfl ?_
    refine o_unguard 66 rfl rfl ?_
    refine o_pure (p_eq (p := (Tier.merged ((Tier.run (⟨2, 1, [], []⟩ : DTiers) ([1, 2, 2, 3, 1, 4])).1)).room) (q := 3) rfl rfl) rfl rfl rfl ?_
    refine o_pure (p_pick_true (u := .bool ((Tier.merged ((Tier.run (⟨2, 1, [], []⟩ : DTiers) ([1, 2, 2, 3, 1, 4])).1)).room == 3)) rfl rfl) rfl rfl rfl ?_
    exact o_sub (Sub.cons rfl (Sub.skip rfl (Sub.skip rfl (Sub.skip rfl (Sub.skip rfl (Sub.skip rfl (Sub.refl _))))))) hk
  · intro hb44 hk
    refine o_guard_no rfl 66 rfl rfl rfl rfl rfl ?_
    refine o_guard_no rfl 66 rfl rfl rfl rfl rfl ?_
    refine o_guard_no rfl 66 rfl rfl rfl rfl rfl ?_
    refine o_pure (p_pick_false (v := .bool false) rfl rfl) rfl rfl rfl ?_
    exact o_sub (Sub.cons rfl (Sub.skip rfl (Sub.skip rfl (Sub.skip rfl (Sub.skip rfl (Sub.skip rfl (Sub.refl _))))))) hk
  refine o_pure (p_move (v := .bool (((((((((decide (((Tier.run (⟨2, 1, [], []⟩ : DTiers) ([1, 2, 2, 3, 1, 4])).1) = (⟨2, 1, [4, 1], [3]⟩ : DTiers))) && (((Tier.run (⟨2, 1, [], []⟩ : DTiers) ([1, 2, 2, 3, 1, 4])).2.1) == 1)) && (((Tier.run (⟨2, 1, [], []⟩ : DTiers) ([1, 2, 2, 3, 1, 4])).2.2) == 1)) && ((Tier.runErr (⟨2, 1, [], []⟩ : DTiers) ([1, 2, 2, 3, 1, 4])) == 0)) && (((Tier.access ((Tier.run (⟨2, 1, [], []⟩ : DTiers) ([1, 2, 2, 3, 1, 4])).1) (5 : Int)).2.1) == 0)) && (((Tier.access ((Tier.run (⟨2, 1, [], []⟩ : DTiers) ([1, 2, 2, 3, 1, 4])).1) (5 : Int)).2.2) == 3)) && (Ref.sameInts (((Tier.access ((Tier.run (⟨2, 1, [], []⟩ : DTiers) ([1, 2, 2, 3, 1, 4])).1) (5 : Int)).1).rest) ([1]))) && ((Tier.accessErr ((Tier.run (⟨2, 1, [], []⟩ : DTiers) ([1, 2, 2, 3, 1, 4])).1) (5 : Int)) == 0)) && ((Tier.merged ((Tier.run (⟨2, 1, [], []⟩ : DTiers) ([1, 2, 2, 3, 1, 4])).1)).room == 3))) rfl) rfl rfl rfl ?_
  refine o_and (p := 76) 5 (Ref.sameInts ((Tier.merged ((Tier.run (⟨2, 1, [], []⟩ : DTiers) ([1, 2, 2, 3, 1, 4])).1)).keys) ([4, 1, 3])) ?_ ?_ ?_
  · intro hb45 hk
    simp only [Bool.and_eq_true, decide_eq_true_eq, beq_iff_eq] at hb45
    refine o_unguard 71 rfl rfl ?_
    refine o_pure (p_fieldAddr (B := B27) (j := 0) (j' := 1) rfl fo48_1 rfl) rfl rfl rfl ?_
    refine o_unguard 71 rfl rfl ?_
    refine o_pure (p_load (i := 2) (v := .slice a24 ((Tier.merged ((Tier.run (⟨2, 1, [], []⟩ : DTiers) ([1, 2, 2, 3, 1, 4])).1)).keys).length c25) rfl rfl sh23 rfl) rfl rfl rfl ?_
    refine o_unguard 71 rfl rfl ?_
    refine o_buildSlice (m := 3) (T := tInt) (L := [4, 1, 3]) (vs := [.int .i64 4, .int .i64 1, .int .i64 3]) rfl rfl rfl rfl Try.underlying23 sz3 (by decide) ze3 rfl (by decide) rfl (fun S46 a47 => ?_)
    refine o_unguard 71 rfl rfl ?_
    refine o_call0 (v := .bool (Ref.sameInts ((Tier.merged ((Tier.run (⟨2, 1, [], []⟩ : DTiers) ([1, 2, 2, 3, 1, 4])).1)).keys) ([4, 1, 3]))) rfl (sameInts_ok ((Tier.merged ((Tier.run (⟨2, 1, [], []⟩ : DTiers) ([1, 2, 2, 3, 1, 4])).1)).keys) a24 c25 ([4, 1, 3]) a47 ([4, 1, 3].length)) hf26 (fun w hw => ⟨(rd_own (i := 4) rfl) w hw, (rd_own (i := 0) rfl) w hw⟩) rfl ?_
    refine o_pure (p_pick_true (u := .bool (Ref.sameInts ((Tier.merged ((Tier.run (⟨2, 1, [], []⟩ : DTiers) ([1, 2, 2, 3, 1, 4])).1)).keys) ([4, 1, 3]))) rfl rfl) rfl rfl rfl ?_
    exact o_sub (Sub.cons rfl (Sub.skip rfl (Sub.skip rfl (Sub.skip rfl (Sub.skip rfl (Sub.skip rfl (Sub.skip rfl (Sub.refl _)))))))) (o_drop (List.Sublist.cons _ (List.Sublist.cons_cons _ (List.Sublist.cons_cons _ (List.Sublist.cons_cons _ (List.Sublist.cons_cons _ (List.Sublist.cons_cons _ (List.Sublist.cons_cons _ (List.Sublist.cons_cons _ (List.Sublist.cons_cons _ (List.Sublist.cons_cons _ (List.Sublist.cons_cons _ (List.Sublist.slnil)))))))))))) hk)
  · intro hb45 hk
    refine o_guard_no rfl 71 rfl rfl rfl rfl rfl ?_
    refine o_guard_no rfl 71 rfl rfl rfl rfl rfl ?_
    refine o_guard_no rfl 71 rfl rfl rfl rfl rfl ?_
    refine o_guard_no rfl 71 rfl rfl rfl rfl rfl ?_
    refine o_pure (p_pick_false (v := .bool false) rfl rfl) rfl rfl rfl ?_
    exact o_sub (Sub.cons rfl (Sub.skip rfl (Sub.skip rfl (Sub.skip rfl (Sub.skip rfl (Sub.skip rfl (Sub.skip rfl (Sub.refl _)))))))) hk
  refine o_pure (p_move (v := .bool ((((((((((decide (((Tier.run (⟨2, 1, [], []⟩ : DTiers) ([1, 2, 2, 3, 1, 4])).1) = (⟨2, 1, [4, 1], [3]⟩ : DTiers))) && (((Tier.run (⟨2, 1, [], []⟩ : DTiers) ([1, 2, 2, 3, 1, 4])).2.1) == 1)) && (((Tier.run (⟨2, 1, [], []⟩ : DTiers) ([1, 2, 2, 3, 1, 4])).2.2) == 1)) && ((Tier.runErr (⟨2, 1, [], []⟩ : DTiers) ([1, 2, 2, 3, 1, 4])) == 0)) && (((Tier.access ((Tier.run (⟨2, 1, [], []⟩ : DTiers) ([1, 2, 2, 3, 1, 4])).1) (5 : Int)).2.1) == 0)) && (((Tier.access ((Tier.run (⟨2, 1, [], []⟩ : DTiers) ([1, 2, 2, 3, 1, 4])).1) (5 : Int)).2.2) == 3)) && (Ref.sameInts (((Tier.access ((Tier.run (⟨2, 1, [], []⟩ : DTiers) ([1, 2, 2, 3, 1, 4])).1) (5 : Int)).1).rest) ([1]))) && ((Tier.accessErr ((Tier.run (⟨2, 1, [], []⟩ : DTiers) ([1, 2, 2, 3, 1, 4])).1) (5 : Int)) == 0)) && ((Tier.merged ((Tier.run (⟨2, 1, [], []⟩ : DTiers) ([1, 2, 2, 3, 1, 4])).1)).room == 3)) && (Ref.sameInts ((Tier.merged ((Tier.run (⟨2, 1, [], []⟩ : DTiers) ([1, 2, 2, 3, 1, 4])).1)).keys) ([4, 1, 3])))) rfl) rfl rfl rfl ?_
  refine o_and (p := 80) 3 ((Tier.check ((Tier.run (⟨2, 1, [], []⟩ : DTiers) ([1, 2, 2, 3, 1, 4])).1)) == 0) ?_ ?_ ?_
  · intro hb49 hk
    simp only [Bool.and_eq_true, decide_eq_true_eq, beq_iff_eq] at hb49
    refine o_unguard 77 rfl rfl ?_
    refine o_pure (p_move (v := .int .i64 (Tier.check ((Tier.run (⟨2, 1, [], []⟩ : DTiers) ([1, 2, 2, 3, 1, 4])).1))) rfl) rfl rfl rfl ?_
    refine o_unguard 77 rfl rfl ?_
    refine o_pure (p_eq (p := (Tier.check ((Tier.run (⟨2, 1, [], []⟩ : DTiers) ([1, 2, 2, 3, 1, 4])).1))) (q := 0) rfl rfl) rfl rfl rfl ?_
    refine o_pure (p_pick_true (u := .bool ((Tier.check ((Tier.run (⟨2, 1, [], []⟩ : DTiers) ([1, 2, 2, 3, 1, 4])).1)) == 0)) rfl rfl) rfl rfl rfl ?_
    exact o_sub (Sub.cons rfl (Sub.skip rfl (Sub.skip rfl (Sub.skip rfl (Sub.skip rfl (Sub.refl _)))))) hk
  · intro hb49 hk
    refine o_guard_no rfl 77 rfl rfl rfl rfl rfl ?_
    refine o_guard_no rfl 77 rfl rfl rfl rfl rfl ?_
    refine o_pure (p_pick_false (v := .bool false) rfl rfl) rfl rfl rfl ?_
    exact o_sub (Sub.cons rfl (Sub.skip rfl (Sub.skip rfl (Sub.skip rfl (Sub.skip rfl (Sub.refl _)))))) hk
  refine o_pure (p_move (v := .bool (((((((((((decide (((Tier.run (⟨2, 1, [], []⟩ : DTiers) ([1, 2, 2, 3, 1, 4])).1) = (⟨2, 1, [4, 1], [3]⟩ : DTiers))) && (((Tier.run (⟨2, 1, [], []⟩ : DTiers) ([1, 2, 2, 3, 1, 4])).2.1) == 1)) && (((Tier.run (⟨2, 1, [], []⟩ : DTiers) ([1, 2, 2, 3, 1, 4])).2.2) == 1)) && ((Tier.runErr (⟨2, 1, [], []⟩ : DTiers) ([1, 2, 2, 3, 1, 4])) == 0)) && (((Tier.access ((Tier.run (⟨2, 1, [], []⟩ : DTiers) ([1, 2, 2, 3, 1, 4])).1) (5 : Int)).2.1) == 0)) && (((Tier.access ((Tier.run (⟨2, 1, [], []⟩ : DTiers) ([1, 2, 2, 3, 1, 4])).1) (5 : Int)).2.2) == 3)) && (Ref.sameInts (((Tier.access ((Tier.run (⟨2, 1, [], []⟩ : DTiers) ([1, 2, 2, 3, 1, 4])).1) (5 : Int)).1).rest) ([1]))) && ((Tier.accessErr ((Tier.run (⟨2, 1, [], []⟩ : DTiers) ([1, 2, 2, 3, 1, 4])).1) (5 : Int)) == 0)) && ((Tier.merged ((Tier.run (⟨2, 1, [], []⟩ : DTiers) ([1, 2, 2, 3, 1, 4])).1)).room == 3)) && (Ref.sameInts ((Tier.merged ((Tier.run (⟨2, 1, [], []⟩ : DTiers) ([1, 2, 2, 3, 1, 4])).1)).keys) ([4, 1, 3]))) && ((Tier.check ((Tier.run (⟨2, 1, [], []⟩ : DTiers) ([1, 2, 2, 3, 1, 4])).1)) == 0))) rfl) rfl rfl rfl ?_
  refine o_and (p := 86) 5 ((Tier.check (⟨2, 1, [], [1]⟩ : DTiers)) == 4) ?_ ?_ ?_
  · intro hb50 hk
    simp only [Bool.and_eq_true, decide_eq_true_eq, beq_iff_eq] at hb50
    refine o_unguard 81 rfl rfl ?_
    refine o_buildSlice (m := 1) (T := tInt) (L := [1]) (vs := [.int .i64 1]) rfl rfl rfl rfl Try.underlying23 sz3 (by decide) ze3 rfl (by decide) rfl (fun S51 a52 => ?_)
    refine o_unguard 81 rfl rfl ?_
    refine o_pure (p_build (cells := [.int .i64 2, .int .i64 1, .slice none 0 0, .slice a52 ([1]).length ([1].length)]) fp43 ze43 rfl rfl) rfl rfl rfl ?_
    refine o_unguard 81 rfl rfl ?_
    refine o_call0 (v := .int .i64 (Tier.check (⟨2, 1, [], [1]⟩ : DTiers))) rfl (tcheck_ok (⟨2, 1, [], [1]⟩ : DTiers) none 0 a52 ([1].length)) hf34 (fun w hw => ⟨rd_nil w hw, (rd_own (i := 0) rfl) w hw⟩) rfl ?_
    refine o_unguard 81 rfl rfl ?_
    refine o_pure (p_eq (p := (Tier.check (⟨2, 1, [], [1]⟩ : DTiers))) (q := 4) rfl rfl) rfl rfl rfl ?_
    refine o_pure (p_pick_true (u := .bool ((Tier.check (⟨2, 1, [], [1]⟩ : DTiers)) == 4)) rfl rfl) rfl rfl rfl ?_
    exact o_sub (Sub.cons rfl (Sub.skip rfl (Sub.skip rfl (Sub.skip rfl (Sub.skip rfl (Sub.skip rfl (Sub.skip rfl (Sub.refl _)))))))) (o_drop (List.Sublist.cons _ (List.Sublist.cons_cons _ (List.Sublist.cons_cons _ (List.Sublist.cons_cons _ (List.Sublist.cons_cons _ (List.Sublist.cons_cons _ (List.Sublist.cons_cons _ (List.Sublist.cons_cons _ (List.Sublist.cons_cons _ (List.Sublist.cons_cons _ (List.Sublist.cons_cons _ (List.Sublist.slnil)))))))))))) hk)
  · intro hb50 hk
    refine o_guard_no rfl 81 rfl rfl rfl rfl rfl ?_
    refine o_guard_no rfl 81 rfl rfl rfl rfl rfl ?_
    refine o_guard_no rfl 81 rfl rfl rfl rfl rfl ?_
    refine o_guard_no rfl 81 rfl rfl rfl rfl rfl ?_
    refine o_pure (p_pick_false (v := .bool false) rfl rfl) rfl rfl rfl ?_
    exact o_sub (Sub.cons rfl (Sub.skip rfl (Sub.skip rfl (Sub.skip rfl (Sub.skip rfl (Sub.skip rfl (Sub.skip rfl (Sub.refl _)))))))) hk
  refine o_pure (p_assign (v := .bool ((((((((((((decide (((Tier.run (⟨2, 1, [], []⟩ : DTiers) ([1, 2, 2, 3, 1, 4])).1) = (⟨2, 1, [4, 1], [3]⟩ : DTiers))) && (((Tier.run (⟨2, 1, [], []⟩ : DTiers) ([1, 2, 2, 3, 1, 4])).2.1) == 1)) && (((Tier.run (⟨2, 1, [], []⟩ : DTiers) ([1, 2, 2, 3, 1, 4])).2.2) == 1)) && ((Tier.runErr (⟨2, 1, [], []⟩ : DTiers) ([1, 2, 2, 3, 1, 4])) == 0)) && (((Tier.access ((Tier.run (⟨2, 1, [], []⟩ : DTiers) ([1, 2, 2, 3, 1, 4])).1) (5 : Int)).2.1) == 0)) && (((Tier.access ((Tier.run (⟨2, 1, [], []⟩ : DTiers) ([1, 2, 2, 3, 1, 4])).1) (5 : Int)).2.2) == 3)) && (Ref.sameInts (((Tier.access ((Tier.run (⟨2, 1, [], []⟩ : DTiers) ([1, 2, 2, 3, 1, 4])).1) (5 : Int)).1).rest) ([1]))) && ((Tier.accessErr ((Tier.run (⟨2, 1, [], []⟩ : DTiers) ([1, 2, 2, 3, 1, 4])).1) (5 : Int)) == 0)) && ((Tier.merged ((Tier.run (⟨2, 1, [], []⟩ : DTiers) ([1, 2, 2, 3, 1, 4])).1)).room == 3)) && (Ref.sameInts ((Tier.merged ((Tier.run (⟨2, 1, [], []⟩ : DTiers) ([1, 2, 2, 3, 1, 4])).1)).keys) ([4, 1, 3]))) && ((Tier.check ((Tier.run (⟨2, 1, [], []⟩ : DTiers) ([1, 2, 2, 3, 1, 4])).1)) == 0)) && ((Tier.check (⟨2, 1, [], [1]⟩ : DTiers)) == 4))) rfl) rfl rfl rfl ?_
  refine o_nil ?_
  refine q_then ?_
  refine c_ret ?_
  have hr0 : (((((((((((((decide (((Tier.run (⟨2, 1, [], []⟩ : DTiers) ([1, 2, 2, 3, 1, 4])).1) = (⟨2, 1, [4, 1], [3]⟩ : DTiers))) && (((Tier.run (⟨2, 1, [], []⟩ : DTiers) ([1, 2, 2, 3, 1, 4])).2.1) == 1)) && (((Tier.run (⟨2, 1, [], []⟩ : DTiers) ([1, 2, 2, 3, 1, 4])).2.2) == 1)) && ((Tier.runErr (⟨2, 1, [], []⟩ : DTiers) ([1, 2, 2, 3, 1, 4])) == 0)) && (((Tier.access ((Tier.run (⟨2, 1, [], []⟩ : DTiers) ([1, 2, 2, 3, 1, 4])).1) (5 : Int)).2.1) == 0)) && (((Tier.access ((Tier.run (⟨2, 1, [], []⟩ : DTiers) ([1, 2, 2, 3, 1, 4])).1) (5 : Int)).2.2) == 3)) && (Ref.sameInts (((Tier.access ((Tier.run (⟨2, 1, [], []⟩ : DTiers) ([1, 2, 2, 3, 1, 4])).1) (5 : Int)).1).rest) ([1]))) && ((Tier.accessErr ((Tier.run (⟨2, 1, [], []⟩ : DTiers) ([1, 2, 2, 3, 1, 4])).1) (5 : Int)) == 0)) && ((Tier.merged ((Tier.run (⟨2, 1, [], []⟩ : DTiers) ([1, 2, 2, 3, 1, 4])).1)).room == 3)) && (Ref.sameInts ((Tier.merged ((Tier.run (⟨2, 1, [], []⟩ : DTiers) ([1, 2, 2, 3, 1, 4])).1)).keys) ([4, 1, 3]))) && ((Tier.check ((Tier.run (⟨2, 1, [], []⟩ : DTiers) ([1, 2, 2, 3, 1, 4])).1)) == 0)) && ((Tier.check (⟨2, 1, [], [1]⟩ : DTiers)) == 4)) : Bool) = true := by
    first | rfl | decide +kernel
  refine q_end0 (v := .bool ((((((((((((decide (((Tier.run (⟨2, 1, [], []⟩ : DTiers) ([1, 2, 2, 3, 1, 4])).1) = (⟨2, 1, [4, 1], [3]⟩ : DTiers))) && (((Tier.run (⟨2, 1, [], []⟩ : DTiers) ([1, 2, 2, 3, 1, 4])).2.1) == 1)) && (((Tier.run (⟨2, 1, [], []⟩ : DTiers) ([1, 2, 2, 3, 1, 4])).2.2) == 1)) && ((Tier.runErr (⟨2, 1, [], []⟩ : DTiers) ([1, 2, 2, 3, 1, 4])) == 0)) && (((Tier.access ((Tier.run (⟨2, 1, [], []⟩ : DTiers) ([1, 2, 2, 3, 1, 4])).1) (5 : Int)).2.1) == 0)) && (((Tier.access ((Tier.run (⟨2, 1, [], []⟩ : DTiers) ([1, 2, 2, 3, 1, 4])).1) (5 : Int)).2.2) == 3)) && (Ref.sameInts (((Tier.access ((Tier.run (⟨2, 1, [], []⟩ : DTiers) ([1, 2, 2, 3, 1, 4])).1) (5 : Int)).1).rest) ([1]))) && ((Tier.accessErr ((Tier.run (⟨2, 1, [], []⟩ : DTiers) ([1, 2, 2, 3, 1, 4])).1) (5 : Int)) == 0)) && ((Tier.merged ((Tier.run (⟨2, 1, [], []⟩ : DTiers) ([1, 2, 2, 3, 1, 4])).1)).room == 3)) && (Ref.sameInts ((Tier.merged ((Tier.run (⟨2, 1, [], []⟩ : DTiers) ([1, 2, 2, 3, 1, 4])).1)).keys) ([4, 1, 3]))) && ((Tier.check ((Tier.run (⟨2, 1, [], []⟩ : DTiers) ([1, 2, 2, 3, 1, 4])).1)) == 0)) && ((Tier.check (⟨2, 1, [], [1]⟩ : DTiers)) == 4))) (rt1 rfl (r_tmp rfl)) (i := 9) rfl ?_
  exact (by have hcc := congrArg (fun (y0 : Bool) => (.bool y0 : Value)) hr0; exact hcc)
end Go.Proofs.Ytgjdmnljnimamaa
