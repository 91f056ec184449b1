/- The walks, printed by a program from the translation and a specification. -/
import Derived.Test.YthbfdhphnofacadLdF
import Derived.Test.YthbfdhphnofacadLrLaw2
import Derived.Test.YthbfdhphnofacadLdW3
import Derived.Test.YthbfdhphnofacadLdW4
namespace Go.Proofs.Ythbfdhphnofacad
open Go.Sx Go.RowKit
set_option maxHeartbeats 8000000 in
set_option maxRecDepth 100000 in
theorem lruBegun_ok  : Fn0 Try.prog 16 [] (fun _ => True) (.bool true) := by
  refine fn0 (nt := 100) (F0 := []) Try.func16 rfl Try.ntmps16 rfl rfl (fun w0 hpre => ?_)
  refine c_seq ?_
  refine c_region ?_
  refine o_pure (p_assign (v := .bool false) rfl) rfl rfl rfl ?_
  refine o_nil ?_
  refine q_then ?_
  refine c_seq ?_
  refine c_region ?_
  refine o_pure (p_build (cells := [.int .i64 3, .slice none 0 0]) fp24 ze24 rfl rfl) rfl rfl rfl ?_
  refine o_callM rfl (belady_ok ) hf59 (fun _ _ => trivial) rfl (fun _ _ _ _ ha hA => SlO.agree ha hA) ?_
  rintro ⟨a3, c4⟩ S1
  refine o_know (fun w hw => own_len (i := 0) (T := tInt) hw rfl) (fun hlr5 => ?_)
  refine o_callM rfl (lrun_ok (⟨3, []⟩ : DCache) none 0 ([1, 2, 3, 4, 1, 2, 5, 1, 2, 3, 4, 5]) a3 c4) hf15 (fun w hw => ⟨rd_nil w hw, (rd_own (i := 0) rfl) w hw⟩) rfl (fun _ _ _ _ ha hA => SlO.agree ha hA) ?_
  rintro ⟨a8, c9⟩ S6
  refine o_know (fun w hw => own_len (i := 0) (T := tInt) hw rfl) (fun hlr10 => ?_)
  refine o_pure (p_move (v := .tuple #[.agg #[.int .i64 (((Lru.run (⟨3, []⟩ : DCache) ([1, 2, 3, 4, 1, 2, 5, 1, 2, 3, 4, 5])).1).room), .slice a8 (((Lru.run (⟨3, []⟩ : DCache) ([1, 2, 3, 4, 1, 2, 5, 1, 2, 3, 4, 5])).1).keys).length c9], .int .i64 ((Lru.run (⟨3, []⟩ : DCache) ([1, 2, 3, 4, 1, 2, 5, 1, 2, 3, 4, 5])).2), .int .i64 (Lru.runErr (⟨3, []⟩ : DCache) ([1, 2, 3, 4, 1, 2, 5, 1, 2, 3, 4, 5]))]) rfl) rfl rfl rfl ?_
  refine o_pure (p_extract (vs := [.agg #[.int .i64 (((Lru.run (⟨3, []⟩ : DCache) ([1, 2, 3, 4, 1, 2, 5, 1, 2, 3, 4, 5])).1).room), .slice a8 (((Lru.run (⟨3, []⟩ : DCache) ([1, 2, 3, 4, 1, 2, 5, 1, 2, 3, 4, 5])).1).keys).length c9], .int .i64 ((Lru.run (⟨3, []⟩ : DCache) ([1, 2, 3, 4, 1, 2, 5, 1, 2, 3, 4, 5])).2), .int .i64 (Lru.runErr (⟨3, []⟩ : DCache) ([1, 2, 3, 4, 1, 2, 5, 1, 2, 3, 4, 5]))]) (v := .agg #[.int .i64 (((Lru.run (⟨3, []⟩ : DCache) ([1, 2, 3, 4, 1, 2, 5, 1, 2, 3, 4, 5])).1).room), .slice a8 (((Lru.run (⟨3, []⟩ : DCache) ([1, 2, 3, 4, 1, 2, 5, 1, 2, 3, 4, 5])).1).keys).length c9]) rfl rfl) rfl rfl rfl ?_
  refine o_pure (p_extract (vs := [.agg #[.int .i64 (((Lru.run (⟨3, []⟩ : DCache) ([1, 2, 3, 4, 1, 2, 5, 1, 2, 3, 4, 5])).1).room), .slice a8 (((Lru.run (⟨3, []⟩ : DCache) ([1, 2, 3, 4, 1, 2, 5, 1, 2, 3, 4, 5])).1).keys).length c9], .int .i64 ((Lru.run (⟨3, []⟩ : DCache) ([1, 2, 3, 4, 1, 2, 5, 1, 2, 3, 4, 5])).2), .int .i64 (Lru.runErr (⟨3, []⟩ : DCache) ([1, 2, 3, 4, 1, 2, 5, 1, 2, 3, 4, 5]))]) (v := .int .i64 ((Lru.run (⟨3, []⟩ : DCache) ([1, 2, 3, 4, 1, 2, 5, 1, 2, 3, 4, 5])).2)) rfl rfl) rfl rfl rfl ?_
  refine o_pure (p_extract (vs := [.agg #[.int .i64 (((Lru.run (⟨3, []⟩ : DCache) ([1, 2, 3, 4, 1, 2, 5, 1, 2, 3, 4, 5])).1).room), .slice a8 (((Lru.run (⟨3, []⟩ : DCache) ([1, 2, 3, 4, 1, 2, 5, 1, 2, 3, 4, 5])).1).keys).length c9], .int .i64 ((Lru.run (⟨3, []⟩ : DCache) ([1, 2, 3, 4, 1, 2, 5, 1, 2, 3, 4, 5])).2), .int .i64 (Lru.runErr (⟨3, []⟩ : DCache) ([1, 2, 3, 4, 1, 2, 5, 1, 2, 3, 4, 5]))]) (v := .int .i64 (Lru.runErr (⟨3, []⟩ : DCache) ([1, 2, 3, 4, 1, 2, 5, 1, 2, 3, 4, 5]))) rfl rfl) rfl rfl rfl ?_
  refine o_alloc ze24 rfl (fun B11 => ?_)
  refine o_storeN (i := 0) (vs := [.int .i64 (((Lru.run (⟨3, []⟩ : DCache) ([1, 2, 3, 4, 1, 2, 5, 1, 2, 3, 4, 5])).1).room), .slice a8 (((Lru.run (⟨3, []⟩ : DCache) ([1, 2, 3, 4, 1, 2, 5, 1, 2, 3, 4, 5])).1).keys).length c9]) (cs' := [.int .i64 (((Lru.run (⟨3, []⟩ : DCache) ([1, 2, 3, 4, 1, 2, 5, 1, 2, 3, 4, 5])).1).room), .slice a8 (((Lru.run (⟨3, []⟩ : DCache) ([1, 2, 3, 4, 1, 2, 5, 1, 2, 3, 4, 5])).1).keys).length c9]) rfl rfl rfl sz24 rfl rfl rfl rfl ?_
  refine o_pure (p_assign (v := .int .i64 ((Lru.run (⟨3, []⟩ : DCache) ([1, 2, 3, 4, 1, 2, 5, 1, 2, 3, 4, 5])).2)) rfl) rfl rfl rfl ?_
  refine o_pure (p_assign (v := .int .i64 (Lru.runErr (⟨3, []⟩ : DCache) ([1, 2, 3, 4, 1, 2, 5, 1, 2, 3, 4, 5]))) rfl) rfl rfl rfl ?_
  refine o_nil ?_
  refine q_then ?_
  refine c_seq ?_
  refine c_region ?_
  refine o_pure (p_load_agg (i := 0) (vs := [.int .i64 (((Lru.run (⟨3, []⟩ : DCache) ([1, 2, 3, 4, 1, 2, 5, 1, 2, 3, 4, 5])).1).room), .slice a8 (((Lru.run (⟨3, []⟩ : DCache) ([1, 2, 3, 4, 1, 2, 5, 1, 2, 3, 4, 5])).1).keys).length c9]) rfl rfl sh24 rfl rfl) rfl rfl rfl ?_
  refine o_callM rfl (laccess_ok ((Lru.run (⟨3, []⟩ : DCache) ([1, 2, 3, 4, 1, 2, 5, 1, 2, 3, 4, 5])).1) a8 c9 (9 : Int)) hf20 (fun w hw => (rd_own (i := 1) rfl) w hw) rfl (fun _ _ _ _ ha hA => SlO.agree ha hA) ?_
  rintro ⟨a14, c15⟩ S12
  refine o_know (fun w hw => own_len (i := 0) (T := tInt) hw rfl) (fun hlr16 => ?_)
  refine o_pure (p_move (v := .tuple #[.agg #[.int .i64 (((Lru.access ((Lru.run (⟨3, []⟩ : DCache) ([1, 2, 3, 4, 1, 2, 5, 1, 2, 3, 4, 5])).1) (9 : Int)).1).room), .slice a14 (((Lru.access ((Lru.run (⟨3, []⟩ : DCache) ([1, 2, 3, 4, 1, 2, 5, 1, 2, 3, 4, 5])).1) (9 : Int)).1).keys).length c15], .bool ((Lru.access ((Lru.run (⟨3, []⟩ : DCache) ([1, 2, 3, 4, 1, 2, 5, 1, 2, 3, 4, 5])).1) (9 : Int)).2.1), .int .i64 ((Lru.access ((Lru.run (⟨3, []⟩ : DCache) ([1, 2, 3, 4, 1, 2, 5, 1, 2, 3, 4, 5])).1) (9 : Int)).2.2), .int .i64 (Lru.accessErr ((Lru.run (⟨3, []⟩ : DCache) ([1, 2, 3, 4, 1, 2, 5, 1, 2, 3, 4, 5])).1) (9 : Int))]) rfl) rfl rfl rfl ?_
  refine o_pure (p_extract (vs := [.agg #[.int .i64 (((Lru.access ((Lru.run (⟨3, []⟩ : DCache) ([1, 2, 3, 4, 1, 2, 5, 1, 2, 3, 4, 5])).1) (9 : Int)).1).room), .slice a14 (((Lru.access ((Lru.run (⟨3, []⟩ : DCache) ([1, 2, 3, 4, 1, 2, 5, 1, 2, 3, 4, 5])).1) (9 : Int)).1).keys).length c15], .bool ((Lru.access ((Lru.run (⟨3, []⟩ : DCache) ([1, 2, 3, 4, 1, 2, 5, 1, 2, 3, 4, 5])).1) (9 : Int)).2.1), .int .i64 ((Lru.access ((Lru.run (⟨3, []⟩ : DCache) ([1, 2, 3, 4, 1, 2, 5, 1, 2, 3, 4, 5])).1) (9 : Int)).2.2), .int .i64 (Lru.accessErr ((Lru.run (⟨3, []⟩ : DCache) ([1, 2, 3, 4, 1, 2, 5, 1, 2, 3, 4, 5])).1) (9 : Int))]) (v := .agg #[.int .i64 (((Lru.access ((Lru.run (⟨3, []⟩ : DCache) ([1, 2, 3, 4, 1, 2, 5, 1, 2, 3, 4, 5])).1) (9 : Int)).1).room), .slice a14 (((Lru.access ((Lru.run (⟨3, []⟩ : DCache) ([1, 2, 3, 4, 1, 2, 5, 1, 2, 3, 4, 5])).1) (9 : Int)).1).keys).length c15]) rfl rfl) rfl rfl rfl ?_
  refine o_pure (p_extract (vs := [.agg #[.int .i64 (((Lru.access ((Lru.run (⟨3, []⟩ : DCache) ([1, 2, 3, 4, 1, 2, 5, 1, 2, 3, 4, 5])).1) (9 : Int)).1).room), .slice a14 (((Lru.access ((Lru.run (⟨3, []⟩ : DCache) ([1, 2, 3, 4, 1, 2, 5, 1, 2, 3, 4, 5])).1) (9 : Int)).1).keys).length c15], .bool ((Lru.access ((Lru.run (⟨3, []⟩ : DCache) ([1, 2, 3, 4, 1, 2, 5, 1, 2, 3, 4, 5])).1) (9 : Int)).2.1), .int .i64 ((Lru.access ((Lru.run (⟨3, []⟩ : DCache) ([1, 2, 3, 4, 1, 2, 5, 1, 2, 3, 4, 5])).1) (9 : Int)).2.2), .int .i64 (Lru.accessErr ((Lru.run (⟨3, []⟩ : DCache) ([1, 2, 3, 4, 1, 2, 5, 1, 2, 3, 4, 5])).1) (9 : Int))]) (v := .bool ((Lru.access ((Lru.run (⟨3, []⟩ : DCache) ([1, 2, 3, 4, 1, 2, 5, 1, 2, 3, 4, 5])).1) (9 : Int)).2.1)) rfl rfl) rfl rfl rfl ?_
  refine o_pure (p_extract (vs := [.agg #[.int .i64 (((Lru.access ((Lru.run (⟨3, []⟩ : DCache) ([1, 2, 3, 4, 1, 2, 5, 1, 2, 3, 4, 5])).1) (9 : Int)).1).room), .slice a14 (((Lru.access ((Lru.run (⟨3, []⟩ : DCache) ([1, 2, 3, 4, 1, 2, 5, 1, 2, 3, 4, 5])).1) (9 : Int)).1).keys).length c15], .bool ((Lru.access ((Lru.run (⟨3, []⟩ : DCache) ([1, 2, 3, 4, 1, 2, 5, 1, 2, 3, 4, 5])).1) (9 : Int)).2.1), .int .i64 ((Lru.access ((Lru.run (⟨3, []⟩ : DCache) ([1, 2, 3, 4, 1, 2, 5, 1, 2, 3, 4, 5])).1) (9 : Int)).2.2), .int .i64 (Lru.accessErr ((Lru.run (⟨3, []⟩ : DCache) ([1, 2, 3, 4, 1, 2, 5, 1, 2, 3, 4, 5])).1) (9 : Int))]) (v := .int .i64 ((Lru.access ((Lru.run (⟨3, []⟩ : DCache) ([1, 2, 3, 4, 1, 2, 5, 1, 2, 3, 4, 5])).1) (9 : Int)).2.2)) rfl rfl) rfl rfl rfl ?_
  refine o_pure (p_extract (vs := [.agg #[.int .i64 (((Lru.access ((Lru.run (⟨3, []⟩ : DCache) ([1, 2, 3, 4, 1, 2, 5, 1, 2, 3, 4, 5])).1) (9 : Int)).1).room), .slice a14 (((Lru.access ((Lru.run (⟨3, []⟩ : DCache) ([1, 2, 3, 4, 1, 2, 5, 1, 2, 3, 4, 5])).1) (9 : Int)).1).keys).length c15], .bool ((Lru.access ((Lru.run (⟨3, []⟩ : DCache) ([1, 2, 3, 4, 1, 2, 5, 1, 2, 3, 4, 5])).1) (9 : Int)).2.1), .int .i64 ((Lru.access ((Lru.run (⟨3, []⟩ : DCache) ([1, 2, 3, 4, 1, 2, 5, 1, 2, 3, 4, 5])).1) (9 : Int)).2.2), .int .i64 (Lru.accessErr ((Lru.run (⟨3, []⟩ : DCache) ([1, 2, 3, 4, 1, 2, 5, 1, 2, 3, 4, 5])).1) (9 : Int))]) (v := .int .i64 (Lru.accessErr ((Lru.run (⟨3, []⟩ : DCache) ([1, 2, 3, 4, 1, 2, 5, 1, 2, 3, 4, 5])).1) (9 : Int))) rfl rfl) rfl rfl rfl ?_
  refine o_alloc ze24 rfl (fun B17 => ?_)
  refine o_storeN (i := 0) (vs := [.int .i64 (((Lru.access ((Lru.run (⟨3, []⟩ : DCache) ([1, 2, 3, 4, 1, 2, 5, 1, 2, 3, 4, 5])).1) (9 : Int)).1).room), .slice a14 (((Lru.access ((Lru.run (⟨3, []⟩ : DCache) ([1, 2, 3, 4, 1, 2, 5, 1, 2, 3, 4, 5])).1) (9 : Int)).1).keys).length c15]) (cs' := [.int .i64 (((Lru.access ((Lru.run (⟨3, []⟩ : DCache) ([1, 2, 3, 4, 1, 2, 5, 1, 2, 3, 4, 5])).1) (9 : Int)).1).room), .slice a14 (((Lru.access ((Lru.run (⟨3, []⟩ : DCache) ([1, 2, 3, 4, 1, 2, 5, 1, 2, 3, 4, 5])).1) (9 : Int)).1).keys).length c15]) rfl rfl rfl sz24 rfl rfl rfl rfl ?_
  refine o_pure (p_assign (v := .bool ((Lru.access ((Lru.run (⟨3, []⟩ : DCache) ([1, 2, 3, 4, 1, 2, 5, 1, 2, 3, 4, 5])).1) (9 : Int)).2.1)) rfl) rfl rfl rfl ?_
  refine o_pure (p_assign (v := .int .i64 ((Lru.access ((Lru.run (⟨3, []⟩ : DCache) ([1, 2, 3, 4, 1, 2, 5, 1, 2, 3, 4, 5])).1) (9 : Int)).2.2)) rfl) rfl rfl rfl ?_
  refine o_pure (p_assign (v := .int .i64 (Lru.accessErr ((Lru.run (⟨3, []⟩ : DCache) ([1, 2, 3, 4, 1, 2, 5, 1, 2, 3, 4, 5])).1) (9 : Int))) rfl) rfl rfl rfl ?_
  refine o_nil ?_
  refine q_then ?_
  refine c_seq ?_
  refine c_region ?_
  refine o_pure (p_load_agg (i := 0) (vs := [.int .i64 (((Lru.access ((Lru.run (⟨3, []⟩ : DCache) ([1, 2, 3, 4, 1, 2, 5, 1, 2, 3, 4, 5])).1) (9 : Int)).1).room), .slice a14 (((Lru.access ((Lru.run (⟨3, []⟩ : DCache) ([1, 2, 3, 4, 1, 2, 5, 1, 2, 3, 4, 5])).1) (9 : Int)).1).keys).length c15]) rfl rfl sh24 rfl rfl) rfl rfl rfl ?_
  refine o_callM rfl (lresize_ok ((Lru.access ((Lru.run (⟨3, []⟩ : DCache) ([1, 2, 3, 4, 1, 2, 5, 1, 2, 3, 4, 5])).1) (9 : Int)).1) a14 c15 (1 : Int)) hf21 (fun w hw => (rd_own (i := 1) rfl) w hw) rfl (fun _ _ _ _ ha hA => ⟨SlR.agree ha hA.1, SlR.agree ha hA.2⟩) ?_
  rintro ⟨a20, c21, a22, c23⟩ S18
  refine o_know (fun w hw => (hw.at (i := 0) rfl).here.1.2.1) (fun hlr24 => ?_)
  refine o_know (fun w hw => (hw.at (i := 0) rfl).here.2.2.1) (fun hlr25 => ?_)
  refine o_pure (p_move (v := .tuple #[.agg #[.int .i64 (((Lru.resize ((Lru.access ((Lru.run (⟨3, []⟩ : DCache) ([1, 2, 3, 4, 1, 2, 5, 1, 2, 3, 4, 5])).1) (9 : Int)).1) (1 : Int)).1).room), .slice a20 (((Lru.resize ((Lru.access ((Lru.run (⟨3, []⟩ : DCache) ([1, 2, 3, 4, 1, 2, 5, 1, 2, 3, 4, 5])).1) (9 : Int)).1) (1 : Int)).1).keys).length c21], .slice a22 ((Lru.resize ((Lru.access ((Lru.run (⟨3, []⟩ : DCache) ([1, 2, 3, 4, 1, 2, 5, 1, 2, 3, 4, 5])).1) (9 : Int)).1) (1 : Int)).2).length c23, .int .i64 (Lru.sizeErr ((Lru.access ((Lru.run (⟨3, []⟩ : DCache) ([1, 2, 3, 4, 1, 2, 5, 1, 2, 3, 4, 5])).1) (9 : Int)).1) (1 : Int))]) rfl) rfl rfl rfl ?_
  refine o_pure (p_extract (vs := [.agg #[.int .i64 (((Lru.resize ((Lru.access ((Lru.run (⟨3, []⟩ : DCache) ([1, 2, 3, 4, 1, 2, 5, 1, 2, 3, 4, 5])).1) (9 : Int)).1) (1 : Int)).1).room), .slice a20 (((Lru.resize ((Lru.access ((Lru.run (⟨3, []⟩ : DCache) ([1, 2, 3, 4, 1, 2, 5, 1, 2, 3, 4, 5])).1) (9 : Int)).1) (1 : Int)).1).keys).length c21], .slice a22 ((Lru.resize ((Lru.access ((Lru.run (⟨3, []⟩ : DCache) ([1, 2, 3, 4, 1, 2, 5, 1, 2, 3, 4, 5])).1) (9 : Int)).1) (1 : Int)).2).length c23, .int .i64 (Lru.sizeErr ((Lru.access ((Lru.run (⟨3, []⟩ : DCache) ([1, 2, 3, 4, 1, 2, 5, 1, 2, 3, 4, 5])).1) (9 : Int)).1) (1 : Int))]) (v := .agg #[.int .i64 (((Lru.resize ((Lru.access ((Lru.run (⟨3, []⟩ : DCache) ([1, 2, 3, 4, 1, 2, 5, 1, 2, 3, 4, 5])).1) (9 : Int)).1) (1 : Int)).1).room), .slice a20 (((Lru.resize ((Lru.access ((Lru.run (⟨3, []⟩ : DCache) ([1, 2, 3, 4, 1, 2, 5, 1, 2, 3, 4, 5])).1) (9 : Int)).1) (1 : Int)).1).keys).length c21]) rfl rfl) rfl rfl rfl ?_
  refine o_pure (p_extract (vs := [.agg #[.int .i64 (((Lru.resize ((Lru.access ((Lru.run (⟨3, []⟩ : DCache) ([1, 2, 3, 4, 1, 2, 5, 1, 2, 3, 4, 5])).1) (9 : Int)).1) (1 : Int)).1).room), .slice a20 (((Lru.resize ((Lru.access ((Lru.run (⟨3, []⟩ : DCache) ([1, 2, 3, 4, 1, 2, 5, 1, 2, 3, 4, 5])).1) (9 : Int)).1) (1 : Int)).1).keys).length c21], .slice a22 ((Lru.resize ((Lru.access ((Lru.run (⟨3, []⟩ : DCache) ([1, 2, 3, 4, 1, 2, 5, 1, 2, 3, 4, 5])).1) (9 : Int)).1) (1 : Int)).2).length c23, .int .i64 (Lru.sizeErr ((Lru.access ((Lru.run (⟨3, []⟩ : DCache) ([1, 2, 3, 4, 1, 2, 5, 1, 2, 3, 4, 5])).1) (9 : Int)).1) (1 : Int))]) (v := .slice a22 ((Lru.resize ((Lru.access ((Lru.run (⟨3, []⟩ : DCache) ([1, 2, 3, 4, 1, 2, 5, 1, 2, 3, 4, 5])).1) (9 : Int)).1) (1 : Int)).2).length c23) rfl rfl) rfl rfl rfl ?_
  refine o_pure (p_extract (vs := [.agg #[.int .i64 (((Lru.resize ((Lru.access ((Lru.run (⟨3, []⟩ : DCache) ([1, 2, 3, 4, 1, 2, 5, 1, 2, 3, 4, 5])).1) (9 : Int)).1) (1 : Int)).1).room), .slice a20 (((Lru.resize ((Lru.access ((Lru.run (⟨3, []⟩ : DCache) ([1, 2, 3, 4, 1, 2, 5, 1, 2, 3, 4, 5])).1) (9 : Int)).1) (1 : Int)).1).keys).length c21], .slice a22 ((Lru.resize ((Lru.access ((Lru.run (⟨3, []⟩ : DCache) ([1, 2, 3, 4, 1, 2, 5, 1, 2, 3, 4, 5])).1) (9 : Int)).1) (1 : Int)).2).length c23, .int .i64 (Lru.sizeErr ((Lru.access ((Lru.run (⟨3, []⟩ : DCache) ([1, 2, 3, 4, 1, 2, 5, 1, 2, 3, 4, 5])).1) (9 : Int)).1) (1 : Int))]) (v := .int .i64 (Lru.sizeErr ((Lru.access ((Lru.run (⟨3, []⟩ : DCache) ([1, 2, 3, 4, 1, 2, 5, 1, 2, 3, 4, 5])).1) (9 : Int)).1) (1 : Int))) rfl rfl) rfl rfl rfl ?_
  refine o_alloc ze24 rfl (fun B26 => ?_)
  refine o_storeN (i := 0) (vs := [.int .i64 (((Lru.resize ((Lru.access ((Lru.run (⟨3, []⟩ : DCache) ([1, 2, 3, 4, 1, 2, 5, 1, 2, 3, 4, 5])).1) (9 : Int)).1) (1 : Int)).1).room), .slice a20 (((Lru.resize ((Lru.access ((Lru.run (⟨3, []⟩ : DCache) ([1, 2, 3, 4, 1, 2, 5, 1, 2, 3, 4, 5])).1) (9 : Int)).1) (1 : Int)).1).keys).length c21]) (cs' := [.int .i64 (((Lru.resize ((Lru.access ((Lru.run (⟨3, []⟩ : DCache) ([1, 2, 3, 4, 1, 2, 5, 1, 2, 3, 4, 5])).1) (9 : Int)).1) (1 : Int)).1).room), .slice a20 (((Lru.resize ((Lru.access ((Lru.run (⟨3, []⟩ : DCache) ([1, 2, 3, 4, 1, 2, 5, 1, 2, 3, 4, 5])).1) (9 : Int)).1) (1 : Int)).1).keys).length c21]) rfl rfl rfl sz24 rfl rfl rfl rfl ?_
  refine o_pure (p_assign (v := .slice a22 ((Lru.resize ((Lru.access ((Lru.run (⟨3, []⟩ : DCache) ([1, 2, 3, 4, 1, 2, 5, 1, 2, 3, 4, 5])).1) (9 : Int)).1) (1 : Int)).2).length c23) rfl) rfl rfl rfl ?_
  refine o_pure (p_assign (v := .int .i64 (Lru.sizeErr ((Lru.access ((Lru.run (⟨3, []⟩ : DCache) ([1, 2, 3, 4, 1, 2, 5, 1, 2, 3, 4, 5])).1) (9 : Int)).1) (1 : Int))) rfl) rfl rfl rfl ?_
  refine o_nil ?_
  refine q_then ?_
  refine c_seq ?_
  refine c_region ?_
  refine o_pure (p_load_agg (i := 4) (vs := [.int .i64 (((Lru.run (⟨3, []⟩ : DCache) ([1, 2, 3, 4, 1, 2, 5, 1, 2, 3, 4, 5])).1).room), .slice a8 (((Lru.run (⟨3, []⟩ : DCache) ([1, 2, 3, 4, 1, 2, 5, 1, 2, 3, 4, 5])).1).keys).length c9]) rfl rfl sh24 rfl rfl) rfl rfl rfl ?_
  refine o_callM rfl (laccess_ok ((Lru.run (⟨3, []⟩ : DCache) ([1, 2, 3, 4, 1, 2, 5, 1, 2, 3, 4, 5])).1) a8 c9 ((-1) : Int)) hf20 (fun w hw => (rd_own (i := 5) rfl) w hw) rfl (fun _ _ _ _ ha hA => SlO.agree ha hA) ?_
  rintro ⟨a29, c30⟩ S27
  refine o_know (fun w hw => own_len (i := 0) (T := tInt) hw rfl) (fun hlr31 => ?_)
  refine o_pure (p_move (v := .tuple #[.agg #[.int .i64 (((Lru.access ((Lru.run (⟨3, []⟩ : DCache) ([1, 2, 3, 4, 1, 2, 5, 1, 2, 3, 4, 5])).1) ((-1) : Int)).1).room), .slice a29 (((Lru.access ((Lru.run (⟨3, []⟩ : DCache) ([1, 2, 3, 4, 1, 2, 5, 1, 2, 3, 4, 5])).1) ((-1) : Int)).1).keys).length c30], .bool ((Lru.access ((Lru.run (⟨3, []⟩ : DCache) ([1, 2, 3, 4, 1, 2, 5, 1, 2, 3, 4, 5])).1) ((-1) : Int)).2.1), .int .i64 ((Lru.access ((Lru.run (⟨3, []⟩ : DCache) ([1, 2, 3, 4, 1, 2, 5, 1, 2, 3, 4, 5])).1) ((-1) : Int)).2.2), .int .i64 (Lru.accessErr ((Lru.run (⟨3, []⟩ : DCache) ([1, 2, 3, 4, 1, 2, 5, 1, 2, 3, 4, 5])).1) ((-1) : Int))]) rfl) rfl rfl rfl ?_
  refine o_pure (p_extract (vs := [.agg #[.int .i64 (((Lru.access ((Lru.run (⟨3, []⟩ : DCache) ([1, 2, 3, 4, 1, 2, 5, 1, 2, 3, 4, 5])).1) ((-1) : Int)).1).room), .slice a29 (((Lru.access ((Lru.run (⟨3, []⟩ : DCache) ([1, 2, 3, 4, 1, 2, 5, 1, 2, 3, 4, 5])).1) ((-1) : Int)).1).keys).length c30], .bool ((Lru.access ((Lru.run (⟨3, []⟩ : DCache) ([1, 2, 3, 4, 1, 2, 5, 1, 2, 3, 4, 5])).1) ((-1) : Int)).2.1), .int .i64 ((Lru.access ((Lru.run (⟨3, []⟩ : DCache) ([1, 2, 3, 4, 1, 2, 5, 1, 2, 3, 4, 5])).1) ((-1) : Int)).2.2), .int .i64 (Lru.accessErr ((Lru.run (⟨3, []⟩ : DCache) ([1, 2, 3, 4, 1, 2, 5, 1, 2, 3, 4, 5])).1) ((-1) : Int))]) (v := .agg #[.int .i64 (((Lru.access ((Lru.run (⟨3, []⟩ : DCache) ([1, 2, 3, 4, 1, 2, 5, 1, 2, 3, 4, 5])).1) ((-1) : Int)).1).room), .slice a29 (((Lru.access ((Lru.run (⟨3, []⟩ : DCache) ([1, 2, 3, 4, 1, 2, 5, 1, 2, 3, 4, 5])).1) ((-1) : Int)).1).keys).length c30]) rfl rfl) rfl rfl rfl ?_
  refine o_pure (p_extract (vs := [.agg #[.int .i64 (((Lru.access ((Lru.run (⟨3, []⟩ : DCache) ([1, 2, 3, 4, 1, 2, 5, 1, 2, 3, 4, 5])).1) ((-1) : Int)).1).room), .slice a29 (((Lru.access ((Lru.run (⟨3, []⟩ : DCache) ([1, 2, 3, 4, 1, 2, 5, 1, 2, 3, 4, 5])).1) ((-1) : Int)).1).keys).length c30], .bool ((Lru.access ((Lru.run (⟨3, []⟩ : DCache) ([1, 2, 3, 4, 1, 2, 5, 1, 2, 3, 4, 5])).1) ((-1) : Int)).2.1), .int .i64 ((Lru.access ((Lru.run (⟨3, []⟩ : DCache) ([1, 2, 3, 4, 1, 2, 5, 1, 2, 3, 4, 5])).1) ((-1) : Int)).2.2), .int .i64 (Lru.accessErr ((Lru.run (⟨3, []⟩ : DCache) ([1, 2, 3, 4, 1, 2, 5, 1, 2, 3, 4, 5])).1) ((-1) : Int))]) (v := .bool ((Lru.access ((Lru.run (⟨3, []⟩ : DCache) ([1, 2, 3, 4, 1, 2, 5, 1, 2, 3, 4, 5])).1) ((-1) : Int)).2.1)) rfl rfl) rfl rfl rfl ?_
  refine o_pure (p_extract (vs := [.agg #[.int .i64 (((Lru.access ((Lru.run (⟨3, []⟩ : DCache) ([1, 2, 3, 4, 1, 2, 5, 1, 2, 3, 4, 5])).1) ((-1) : Int)).1).room), .slice a29 (((Lru.access ((Lru.run (⟨3, []⟩ : DCache) ([1, 2, 3, 4, 1, 2, 5, 1, 2, 3, 4, 5])).1) ((-1) : Int)).1).keys).length c30], .bool ((Lru.access ((Lru.run (⟨3, []⟩ : DCache) ([1, 2, 3, 4, 1, 2, 5, 1, 2, 3, 4, 5])).1) ((-1) : Int)).2.1), .int .i64 ((Lru.access ((Lru.run (⟨3, []⟩ : DCache) ([1, 2, 3, 4, 1, 2, 5, 1, 2, 3, 4, 5])).1) ((-1) : Int)).2.2), .int .i64 (Lru.accessErr ((Lru.run (⟨3, []⟩ : DCache) ([1, 2, 3, 4, 1, 2, 5, 1, 2, 3, 4, 5])).1) ((-1) : Int))]) (v := .int .i64 ((Lru.access ((Lru.run (⟨3, []⟩ : DCache) ([1, 2, 3, 4, 1, 2, 5, 1, 2, 3, 4, 5])).1) ((-1) : Int)).2.2)) rfl rfl) rfl rfl rfl ?_
  refine o_pure (p_extract (vs := [.agg #[.int .i64 (((Lru.access ((Lru.run (⟨3, []⟩ : DCache) ([1, 2, 3, 4, 1, 2, 5, 1, 2, 3, 4, 5])).1) ((-1) : Int)).1).room), .slice a29 (((Lru.access ((Lru.run (⟨3, []⟩ : DCache) ([1, 2, 3, 4, 1, 2, 5, 1, 2, 3, 4, 5])).1) ((-1) : Int)).1).keys).length c30], .bool ((Lru.access ((Lru.run (⟨3, []⟩ : DCache) ([1, 2, 3, 4, 1, 2, 5, 1, 2, 3, 4, 5])).1) ((-1) : Int)).2.1), .int .i64 ((Lru.access ((Lru.run (⟨3, []⟩ : DCache) ([1, 2, 3, 4, 1, 2, 5, 1, 2, 3, 4, 5])).1) ((-1) : Int)).2.2), .int .i64 (Lru.accessErr ((Lru.run (⟨3, []⟩ : DCache) ([1, 2, 3, 4, 1, 2, 5, 1, 2, 3, 4, 5])).1) ((-1) : Int))]) (v := .int .i64 (Lru.accessErr ((Lru.run (⟨3, []⟩ : DCache) ([1, 2, 3, 4, 1, 2, 5, 1, 2, 3, 4, 5])).1) ((-1) : Int))) rfl rfl) rfl rfl rfl ?_
  refine o_alloc ze24 rfl (fun B32 => ?_)
  refine o_storeN (i := 0) (vs := [.int .i64 (((Lru.access ((Lru.run (⟨3, []⟩ : DCache) ([1, 2, 3, 4, 1, 2, 5, 1, 2, 3, 4, 5])).1) ((-1) : Int)).1).room), .slice a29 (((Lru.access ((Lru.run (⟨3, []⟩ : DCache) ([1, 2, 3, 4, 1, 2, 5, 1, 2, 3, 4, 5])).1) ((-1) : Int)).1).keys).length c30]) (cs' := [.int .i64 (((Lru.access ((Lru.run (⟨3, []⟩ : DCache) ([1, 2, 3, 4, 1, 2, 5, 1, 2, 3, 4, 5])).1) ((-1) : Int)).1).room), .slice a29 (((Lru.access ((Lru.run (⟨3, []⟩ : DCache) ([1, 2, 3, 4, 1, 2, 5, 1, 2, 3, 4, 5])).1) ((-1) : Int)).1).keys).length c30]) rfl rfl rfl sz24 rfl rfl rfl rfl ?_
  refine o_pure (p_assign (v := .bool ((Lru.access ((Lru.run (⟨3, []⟩ : DCache) ([1, 2, 3, 4, 1, 2, 5, 1, 2, 3, 4, 5])).1) ((-1) : Int)).2.1)) rfl) rfl rfl rfl ?_
  refine o_pure (p_assign (v := .int .i64 ((Lru.access ((Lru.run (⟨3, []⟩ : DCache) ([1, 2, 3, 4, 1, 2, 5, 1, 2, 3, 4, 5])).1) ((-1) : Int)).2.2)) rfl) rfl rfl rfl ?_
  refine o_pure (p_assign (v := .int .i64 (Lru.accessErr ((Lru.run (⟨3, []⟩ : DCache) ([1, 2, 3, 4, 1, 2, 5, 1, 2, 3, 4, 5])).1) ((-1) : Int))) rfl) rfl rfl rfl ?_
  refine o_nil ?_
  refine q_then ?_
  refine c_seq ?_
  refine c_region ?_
  refine o_pure (p_fieldAddr (B := B11) (j := 0) (j' := 1) rfl fo24_1 rfl) rfl rfl rfl ?_
  refine o_pure (p_load (i := 6) (v := .slice a8 (((Lru.run (⟨3, []⟩ : DCache) ([1, 2, 3, 4, 1, 2, 5, 1, 2, 3, 4, 5])).1).keys).length c9) rfl rfl sh22 rfl) rfl rfl rfl ?_
  refine o_buildSlice (m := 3) (T := tInt) (L := [5, 4, 3]) (vs := [.int .i64 5, .int .i64 4, .int .i64 3]) rfl rfl rfl rfl Try.underlying22 sz3 (by decide) ze3 rfl (by decide) rfl (fun S33 a34 => ?_)
  refine o_call0 (v := .bool (Ref.sameInts (((Lru.run (⟨3, []⟩ : DCache) ([1, 2, 3, 4, 1, 2, 5, 1, 2, 3, 4, 5])).1).keys) ([5, 4, 3]))) rfl (sameInts_ok (((Lru.run (⟨3, []⟩ : DCache) ([1, 2, 3, 4, 1, 2, 5, 1, 2, 3, 4, 5])).1).keys) a8 c9 ([5, 4, 3]) a34 ([5, 4, 3].length)) hf17 (fun w hw => ⟨(rd_own (i := 8) rfl) w hw, (rd_own (i := 0) rfl) w hw⟩) rfl ?_
  refine o_pure (p_move (v := .bool (Ref.sameInts (((Lru.run (⟨3, []⟩ : DCache) ([1, 2, 3, 4, 1, 2, 5, 1, 2, 3, 4, 5])).1).keys) ([5, 4, 3]))) rfl) rfl rfl rfl ?_
  refine o_and (p := 49) 3 (((Lru.run (⟨3, []⟩ : DCache) ([1, 2, 3, 4, 1, 2, 5, 1, 2, 3, 4, 5])).2) == 2) ?_ ?_ ?_
  · intro hb36 hk
    skip
    refine o_unguard 46 rfl rfl ?_
    refine o_pure (p_move (v := .int .i64 ((Lru.run (⟨3, []⟩ : DCache) ([1, 2, 3, 4, 1, 2, 5, 1, 2, 3, 4, 5])).2)) rfl) rfl rfl rfl ?_
    refine o_unguard 46 rfl rfl ?_
    refine o_pure (p_eq (p := ((Lru.run (⟨3, []⟩ : DCache) ([1, 2, 3, 4, 1, 2, 5, 1, 2, 3, 4, 5])).2)) (q := 2) rfl rfl) rfl rfl rfl ?_
    refine o_pure (p_pick_true (u := .bool (((Lru.run (⟨3, []⟩ : DCache) ([1, 2, 3, 4, 1, 2, 5, 1, 2, 3, 4, 5])).2) == 2)) rfl rfl) rfl rfl rfl ?_
    exact o_sub (Sub.cons rfl (Sub.skip rfl (Sub.skip rfl (Sub.skip rfl (Sub.skip rfl (Sub.refl _)))))) hk
  · intro hb36 hk
    refine o_guard_no rfl 46 rfl rfl rfl rfl rfl ?_
    refine o_guard_no rfl 46 rfl rfl rfl rfl rfl ?_
    refine o_pure (p_pick_false (v := .bool false) rfl rfl) rfl rfl rfl ?_
    exact o_sub (Sub.cons rfl (Sub.skip rfl (Sub.skip rfl (Sub.skip rfl (Sub.skip rfl (Sub.refl _)))))) hk
  refine o_pure (p_move (v := .bool ((Ref.sameInts (((Lru.run (⟨3, []⟩ : DCache) ([1, 2, 3, 4, 1, 2, 5, 1, 2, 3, 4, 5])).1).keys) ([5, 4, 3])) && (((Lru.run (⟨3, []⟩ : DCache) ([1, 2, 3, 4, 1, 2, 5, 1, 2, 3, 4, 5])).2) == 2))) rfl) rfl rfl rfl ?_
  refine o_and (p := 53) 3 ((Lru.runErr (⟨3, []⟩ : DCache) ([1, 2, 3, 4, 1, 2, 5, 1, 2, 3, 4, 5])) == 0) ?_ ?_ ?_
  · intro hb37 hk
    simp only [Bool.and_eq_true, beq_iff_eq] at hb37
    refine o_unguard 50 rfl rfl ?_
    refine o_pure (p_move (v := .int .i64 (Lru.runErr (⟨3, []⟩ : DCache) ([1, 2, 3, 4, 1, 2, 5, 1, 2, 3, 4, 5]))) rfl) rfl rfl rfl ?_
    refine o_unguard 50 rfl rfl ?_
    refine o_pure (p_eq (p := (Lru.runErr (⟨3, []⟩ : DCache) ([1, 2, 3, 4, 1, 2, 5, 1, 2, 3, 4, 5]))) (q := 0) rfl rfl) rfl rfl rfl ?_
    refine o_pure (p_pick_true (u := .bool ((Lru.runErr (⟨3, []⟩ : DCache) ([1, 2, 3, 4, 1, 2, 5, 1, 2, 3, 4, 5])) == 0)) rfl rfl) rfl rfl rfl ?_
    exact o_sub (Sub.cons rfl (Sub.skip rfl (Sub.skip rfl (Sub.skip rfl (Sub.skip rfl (Sub.refl _)))))) hk
  · intro hb37 hk
    refine o_guard_no rfl 50 rfl rfl rfl rfl rfl ?_
    refine o_guard_no rfl 50 rfl rfl rfl rfl rfl ?_
    refine o_pure (p_pick_false (v := .bool false) rfl rfl) rfl rfl rfl ?_
    exact o_sub (Sub.cons rfl (Sub.skip rfl (Sub.skip rfl (Sub.skip rfl (Sub.skip rfl (Sub.refl _)))))) hk
  refine o_pure (p_move (v := .bool (((Ref.sameInts (((Lru.run (⟨3, []⟩ : DCache) ([1, 2, 3, 4, 1, 2, 5, 1, 2, 3, 4, 5])).1).keys) ([5, 4, 3])) && (((Lru.run (⟨3, []⟩ : DCache) ([1, 2, 3, 4, 1, 2, 5, 1, 2, 3, 4, 5])).2) == 2)) && ((Lru.runErr (⟨3, []⟩ : DCache) ([1, 2, 3, 4, 1, 2, 5, 1, 2, 3, 4, 5])) == 0))) rfl) rfl rfl rfl ?_
  refine o_and (p := 59) 5 (Ref.sameInts (((Lru.access ((Lru.run (⟨3, []⟩ : DCache) ([1, 2, 3, 4, 1, 2, 5, 1, 2, 3, 4, 5])).1) (9 : Int)).1).keys) ([9, 5, 4])) ?_ ?_ ?_
  · intro hb38 hk
    simp only [Bool.and_eq_true, beq_iff_eq] at hb38
    refine o_unguard 54 rfl rfl ?_
    refine o_pure (p_fieldAddr (B := B17) (j := 0) (j' := 1) rfl fo24_1 rfl) rfl rfl rfl ?_
    refine o_unguard 54 rfl rfl ?_
    refine o_pure (p_load (i := 5) (v := .slice a14 (((Lru.access ((Lru.run (⟨3, []⟩ : DCache) ([1, 2, 3, 4, 1, 2, 5, 1, 2, 3, 4, 5])).1) (9 : Int)).1).keys).length c15) rfl rfl sh22 rfl) rfl rfl rfl ?_
    refine o_unguard 54 rfl rfl ?_
    refine o_buildSlice (m := 3) (T := tInt) (L := [9, 5, 4]) (vs := [.int .i64 9, .int .i64 5, .int .i64 4]) rfl rfl rfl rfl Try.underlying22 sz3 (by decide) ze3 rfl (by decide) rfl (fun S39 a40 => ?_)
    refine o_unguard 54 rfl rfl ?_
    refine o_call0 (v := .bool (Ref.sameInts (((Lru.access ((Lru.run (⟨3, []⟩ : DCache) ([1, 2, 3, 4, 1, 2, 5, 1, 2, 3, 4, 5])).1) (9 : Int)).1).keys) ([9, 5, 4]))) rfl (sameInts_ok (((Lru.access ((Lru.run (⟨3, []⟩ : DCache) ([1, 2, 3, 4, 1, 2, 5, 1, 2, 3, 4, 5])).1) (9 : Int)).1).keys) a14 c15 ([9, 5, 4]) a40 ([9, 5, 4].length)) hf17 (fun w hw => ⟨(rd_own (i := 7) rfl) w hw, (rd_own (i := 0) rfl) w hw⟩) rfl ?_
    refine o_pure (p_pick_true (u := .bool (Ref.sameInts (((Lru.access ((Lru.run (⟨3, []⟩ : DCache) ([1, 2, 3, 4, 1, 2, 5, 1, 2, 3, 4, 5])).1) (9 : Int)).1).keys) ([9, 5, 4]))) rfl rfl) rfl rfl rfl ?_
    exact o_sub (Sub.cons rfl (Sub.skip rfl (Sub.skip rfl (Sub.skip rfl (Sub.skip rfl (Sub.skip rfl (Sub.skip rfl (Sub.refl _)))))))) (o_drop (List.Sublist.cons _ (List.Sublist.cons_cons _ (List.Sublist.cons_cons _ (List.Sublist.cons_cons _ (List.Sublist.cons_cons _ (List.Sublist.cons_cons _ (List.Sublist.cons_cons _ (List.Sublist.cons_cons _ (List.Sublist.cons_cons _ (List.Sublist.cons_cons _ (List.Sublist.cons_cons _ (List.Sublist.cons_cons _ (List.Sublist.slnil))))))))))))) hk)
  · intro hb38 hk
    refine o_guard_no rfl 54 rfl rfl rfl rfl rfl ?_
    refine o_guard_no rfl 54 rfl rfl rfl rfl rfl ?_
    refine o_guard_no rfl 54 rfl rfl rfl rfl rfl ?_
    refine o_guard_no rfl 54 rfl rfl rfl rfl rfl ?_
    refine o_pure (p_pick_false (v := .bool false) rfl rfl) rfl rfl rfl ?_
    exact o_sub (Sub.cons rfl (Sub.skip rfl (Sub.skip rfl (Sub.skip rfl (Sub.skip rfl (Sub.skip rfl (Sub.skip rfl (Sub.refl _)))))))) hk
  refine o_pure (p_move (v := .bool ((((Ref.sameInts (((Lru.run (⟨3, []⟩ : DCache) ([1, 2, 3, 4, 1, 2, 5, 1, 2, 3, 4, 5])).1).keys) ([5, 4, 3])) && (((Lru.run (⟨3, []⟩ : DCache) ([1, 2, 3, 4, 1, 2, 5, 1, 2, 3, 4, 5])).2) == 2)) && ((Lru.runErr (⟨3, []⟩ : DCache) ([1, 2, 3, 4, 1, 2, 5, 1, 2, 3, 4, 5])) == 0)) && (Ref.sameInts (((Lru.access ((Lru.run (⟨3, []⟩ : DCache) ([1, 2, 3, 4, 1, 2, 5, 1, 2, 3, 4, 5])).1) (9 : Int)).1).keys) ([9, 5, 4])))) rfl) rfl rfl rfl ?_
  refine o_and (p := 63) 3 (!((Lru.access ((Lru.run (⟨3, []⟩ : DCache) ([1, 2, 3, 4, 1, 2, 5, 1, 2, 3, 4, 5])).1) (9 : Int)).2.1)) ?_ ?_ ?_
  · intro hb42 hk
    simp only [Bool.and_eq_true, beq_iff_eq] at hb42
    refine o_unguard 60 rfl rfl ?_
    refine o_pure (p_move (v := .bool ((Lru.access ((Lru.run (⟨3, []⟩ : DCache) ([1, 2, 3, 4, 1, 2, 5, 1, 2, 3, 4, 5])).1) (9 : Int)).2.1)) rfl) rfl rfl rfl ?_
    refine o_unguard 60 rfl rfl ?_
    refine o_pure (p_not (b := ((Lru.access ((Lru.run (⟨3, []⟩ : DCache) ([1, 2, 3, 4, 1, 2, 5, 1, 2, 3, 4, 5])).1) (9 : Int)).2.1)) rfl) rfl rfl rfl ?_
    refine o_pure (p_pick_true (u := .bool (!((Lru.access ((Lru.run (⟨3, []⟩ : DCache) ([1, 2, 3, 4, 1, 2, 5, 1, 2, 3, 4, 5])).1) (9 : Int)).2.1))) rfl rfl) rfl rfl rfl ?_
    exact o_sub (Sub.cons rfl (Sub.skip rfl (Sub.skip rfl (Sub.skip rfl (Sub.skip rfl (Sub.refl _)))))) hk
  · intro hb42 hk
    refine o_guard_no rfl 60 rfl rfl rfl rfl rfl ?_
    refine o_guard_no rfl 60 rfl rfl rfl rfl rfl ?_
    refine o_pure (p_pick_false (v := .bool false) rfl rfl) rfl rfl rfl ?_
    exact o_sub (Sub.cons rfl (Sub.skip rfl (Sub.skip rfl (Sub.skip rfl (Sub.skip rfl (Sub.refl _)))))) hk
  refine o_pure (p_move (v := .bool (((((Ref.sameInts (((Lru.run (⟨3, []⟩ : DCache) ([1, 2, 3, 4, 1, 2, 5, 1, 2, 3, 4, 5])).1).keys) ([5, 4, 3])) && (((Lru.run (⟨3, []⟩ : DCache) ([1, 2, 3, 4, 1, 2, 5, 1, 2, 3, 4, 5])).2) == 2)) && ((Lru.runErr (⟨3, []⟩ : DCache) ([1, 2, 3, 4, 1, 2, 5, 1, 2, 3, 4, 5])) == 0)) && (Ref.sameInts (((Lru.access ((Lru.run (⟨3, []⟩ : DCache) ([1, 2, 3, 4, 1, 2, 5, 1, 2, 3, 4, 5])).1) (9 : Int)).1).keys) ([9, 5, 4]))) && (!((Lru.access ((Lru.run (⟨3, []⟩ : DCache) ([1, 2, 3, 4, 1, 2, 5, 1, 2, 3, 4, 5])).1) (9 : Int)).2.1)))) rfl) rfl rfl rfl ?_
  refine o_and (p := 67) 3 (((Lru.access ((Lru.run (⟨3, []⟩ : DCache) ([1, 2, 3, 4, 1, 2, 5, 1, 2, 3, 4, 5])).1) (9 : Int)).2.2) == 3) ?_ ?_ ?_
  · intro hb43 hk
    simp only [Bool.and_eq_true, beq_iff_eq, Bool.not_eq_true'] at hb43
    refine o_unguard 64 rfl rfl ?_
    refine o_pure (p_move (v := .int .i64 ((Lru.access ((Lru.run (⟨3, []⟩ : DCache) ([1, 2, 3, 4, 1, 2, 5, 1, 2, 3, 4, 5])).1) (9 : Int)).2.2)) rfl) rfl rfl rfl ?_
    refine o_unguard 64 rfl rfl ?_
    refine o_pure (p_eq (p := ((Lru.access ((Lru.run (⟨3, []⟩ : DCache) ([1, 2, 3, 4, 1, 2, 5, 1, 2, 3, 4, 5])).1) (9 : Int)).2.2)) (q := 3) rfl rfl) rfl rfl rfl ?_
    refine o_pure (p_pick_true (u := .bool (((Lru.access ((Lru.run (⟨3, []⟩ : DCache) ([1, 2, 3, 4, 1, 2, 5, 1, 2, 3, 4, 5])).1) (9 : Int)).2.2) == 3)) rfl rfl) rfl rfl rfl ?_
    exact o_sub (Sub.cons rfl (Sub.skip rfl (Sub.skip rfl (Sub.skip rfl (Sub.skip rfl (Sub.refl _)))))) hk
  · intro hb43 hk
    refine o_guard_no rfl 64 rfl rfl rfl rfl rfl ?_
    refine o_guard_no rfl 64 rfl rfl rfl rfl rfl ?_
    refine o_pure (p_pick_false (v := .bool false) rfl rfl) rfl rfl rfl ?_
    exact o_sub (Sub.cons rfl (Sub.skip rfl (Sub.skip rfl (Sub.skip rfl (Sub.skip rfl (Sub.refl _)))))) hk
  refine o_pure (p_move (v := .bool ((((((Ref.sameInts (((Lru.run (⟨3, []⟩ : DCache) ([1, 2, 3, 4, 1, 2, 5, 1, 2, 3, 4, 5])).1).keys) ([5, 4, 3])) && (((Lru.run (⟨3, []⟩ : DCache) ([1, 2, 3, 4, 1, 2, 5, 1, 2, 3, 4, 5])).2) == 2)) && ((Lru.runErr (⟨3, []⟩ : DCache) ([1, 2, 3, 4, 1, 2, 5, 1, 2, 3, 4, 5])) == 0)) && (Ref.sameInts (((Lru.access ((Lru.run (⟨3, []⟩ : DCache) ([1, 2, 3, 4, 1, 2, 5, 1, 2, 3, 4, 5])).1) (9 : Int)).1).keys) ([9, 5, 4]))) && (!((Lru.access ((Lru.run (⟨3, []⟩ : DCache) ([1, 2, 3, 4, 1, 2, 5, 1, 2, 3, 4, 5])).1) (9 : Int)).2.1))) && (((Lru.access ((Lru.run (⟨3, []⟩ : DCache) ([1, 2, 3, 4, 1, 2, 5, 1, 2, 3, 4, 5])).1) (9 : Int)).2.2) == 3))) rfl) rfl rfl rfl ?_
  refine o_and (p := 71) 3 ((Lru.accessErr ((Lru.run (⟨3, []⟩ : DCache) ([1, 2, 3, 4, 1, 2, 5, 1, 2, 3, 4, 5])).1) (9 : Int)) == 0) ?_ ?_ ?_
  · intro hb44 hk
    simp only [Bool.and_eq_true, beq_iff_eq, Bool.not_eq_true'] at hb44
    refine o_unguard 68 rfl rfl ?_
    refine o_pure (p_move (v := .int .i64 (Lru.accessErr ((Lru.run (⟨3, []⟩ : DCache) ([1, 2, 3, 4, 1, 2, 5, 1, 2, 3, 4, 5])).1) (9 : Int))) rfl) rfl rfl rfl ?_
    refine o_unguard 68 rfl rfl ?_
    refine o_pure (p_eq (p := (Lru.accessErr ((Lru.run (⟨3, []⟩ : DCache) ([1, 2, 3, 4, 1, 2, 5, 1, 2, 3, 4, 5])).1) (9 : Int))) (q := 0) rfl rfl) rfl rfl rfl ?_
    refine o_pure (p_pick_true (u := .bool ((Lru.accessErr ((Lru.run (⟨3, []⟩ : DCache) ([1, 2, 3, 4, 1, 2, 5, 1, 2, 3, 4, 5])).1) (9 : Int)) == 0)) rfl rfl) rfl rfl rfl ?_
    exact o_sub (Sub.cons rfl (Sub.skip rfl (Sub.skip rfl (Sub.skip rfl (Sub.skip rfl (Sub.refl _)))))) hk
  · intro hb44 hk
    refine o_guard_no rfl 68 rfl rfl rfl rfl rfl ?_
    refine o_guard_no rfl 68 rfl rfl rfl rfl rfl ?_
    refine o_pure (p_pick_false (v := .bool false) rfl rfl) rfl rfl rfl ?_
    exact o_sub (Sub.cons rfl (Sub.skip rfl (Sub.skip rfl (Sub.skip rfl (Sub.skip rfl (Sub.refl _)))))) hk
  refine o_pure (p_move (v := .bool (((((((Ref.sameInts (((Lru.run (⟨3, []⟩ : DCache) ([1, 2, 3, 4, 1, 2, 5, 1, 2, 3, 4, 5])).1).keys) ([5, 4, 3])) && (((Lru.run (⟨3, []⟩ : DCache) ([1, 2, 3, 4, 1, 2, 5, 1, 2, 3, 4, 5])).2) == 2)) && ((Lru.runErr (⟨3, []⟩ : DCache) ([1, 2, 3, 4, 1, 2, 5, 1, 2, 3, 4, 5])) == 0)) && (Ref.sameInts (((Lru.access ((Lru.run (⟨3, []⟩ : DCache) ([1, 2, 3, 4, 1, 2, 5, 1, 2, 3, 4, 5])).1) (9 : Int)).1).keys) ([9, 5, 4]))) && (!((Lru.access ((Lru.run (⟨3, []⟩ : DCache) ([1, 2, 3, 4, 1, 2, 5, 1, 2, 3, 4, 5])).1) (9 : Int)).2.1))) && (((Lru.access ((Lru.run (⟨3, []⟩ : DCache) ([1, 2, 3, 4, 1, 2, 5, 1, 2, 3, 4, 5])).1) (9 : Int)).2.2) == 3)) && ((Lru.accessErr ((Lru.run (⟨3, []⟩ : DCache) ([1, 2, 3, 4, 1, 2, 5, 1, 2, 3, 4, 5])).1) (9 : Int)) == 0))) rfl) rfl rfl rfl ?_
  refine o_and (p := 77) 5 (Ref.sameInts (((Lru.resize ((Lru.access ((Lru.run (⟨3, []⟩ : DCache) ([1, 2, 3, 4, 1, 2, 5, 1, 2, 3, 4, 5])).1) (9 : Int)).1) (1 : Int)).1).keys) ([9])) ?_ ?_ ?_
  · intro hb45 hk
    simp only [Bool.and_eq_true, beq_iff_eq, Bool.not_eq_true'] at hb45
    refine o_unguard 72 rfl rfl ?_
    refine o_pure (p_fieldAddr (B := B26) (j := 0) (j' := 1) rfl fo24_1 rfl) rfl rfl rfl ?_
    refine o_unguard 72 rfl rfl ?_
    refine o_pure (p_load (i := 3) (v := .slice a20 (((Lru.resize ((Lru.access ((Lru.run (⟨3, []⟩ : DCache) ([1, 2, 3, 4, 1, 2, 5, 1, 2, 3, 4, 5])).1) (9 : Int)).1) (1 : Int)).1).keys).length c21) rfl rfl sh22 rfl) rfl rfl rfl ?_
    refine o_unguard 72 rfl rfl ?_
    refine o_buildSlice (m := 1) (T := tInt) (L := [9]) (vs := [.int .i64 9]) rfl rfl rfl rfl Try.underlying22 sz3 (by decide) ze3 rfl (by decide) rfl (fun S46 a47 => ?_)
    refine o_unguard 72 rfl rfl ?_
    refine o_call0 (v := .bool (Ref.sameInts (((Lru.resize ((Lru.access ((Lru.run (⟨3, []⟩ : DCache) ([1, 2, 3, 4, 1, 2, 5, 1, 2, 3, 4, 5])).1) (9 : Int)).1) (1 : Int)).1).keys) ([9]))) rfl (sameInts_ok (((Lru.resize ((Lru.access ((Lru.run (⟨3, []⟩ : DCache) ([1, 2, 3, 4, 1, 2, 5, 1, 2, 3, 4, 5])).1) (9 : Int)).1) (1 : Int)).1).keys) a20 c21 ([9]) a47 ([9].length)) hf17 (fun w hw => ⟨(rd_ent (i := 5) rfl (fun w h => h.1)) w hw, (rd_own (i := 0) rfl) w hw⟩) rfl ?_
    refine o_pure (p_pick_true (u := .bool (Ref.sameInts (((Lru.resize ((Lru.access ((Lru.run (⟨3, []⟩ : DCache) ([1, 2, 3, 4, 1, 2, 5, 1, 2, 3, 4, 5])).1) (9 : Int)).1) (1 : Int)).1).keys) ([9]))) rfl rfl) rfl rfl rfl ?_
    exact o_sub (Sub.cons rfl (Sub.skip rfl (Sub.skip rfl (Sub.skip rfl (Sub.skip rfl (Sub.skip rfl (Sub.skip rfl (Sub.refl _)))))))) (o_drop (List.Sublist.cons _ (List.Sublist.cons_cons _ (List.Sublist.cons_cons _ (List.Sublist.cons_cons _ (List.Sublist.cons_cons _ (List.Sublist.cons_cons _ (List.Sublist.cons_cons _ (List.Sublist.cons_cons _ (List.Sublist.cons_cons _ (List.Sublist.cons_cons _ (List.Sublist.cons_cons _ (List.Sublist.cons_cons _ (List.Sublist.slnil))))))))))))) hk)
  · intro hb45 hk
    refine o_guard_no rfl 72 rfl rfl rfl rfl rfl ?_
    refine o_guard_no rfl 72 rfl rfl rfl rfl rfl ?_
    refine o_guard_no rfl 72 rfl rfl rfl rfl rfl ?_
    refine o_guard_no rfl 72 rfl rfl rfl rfl rfl ?_
    refine o_pure (p_pick_false (v := .bool false) rfl rfl) rfl rfl rfl ?_
    exact o_sub (Sub.cons rfl (Sub.skip rfl (Sub.skip rfl (Sub.skip rfl (Sub.skip rfl (Sub.skip rfl (Sub.skip rfl (Sub.refl _)))))))) hk
  refine o_pure (p_move (v := .bool ((((((((Ref.sameInts (((Lru.run (⟨3, []⟩ : DCache) ([1, 2, 3, 4, 1, 2, 5, 1, 2, 3, 4, 5])).1).keys) ([5, 4, 3])) && (((Lru.run (⟨3, []⟩ : DCache) ([1, 2, 3, 4, 1, 2, 5, 1, 2, 3, 4, 5])).2) == 2)) && ((Lru.runErr (⟨3, []⟩ : DCache) ([1, 2, 3, 4, 1, 2, 5, 1, 2, 3, 4, 5])) == 0)) && (Ref.sameInts (((Lru.access ((Lru.run (⟨3, []⟩ : DCache) ([1, 2, 3, 4, 1, 2, 5, 1, 2, 3, 4, 5])).1) (9 : Int)).1).keys) ([9, 5, 4]))) && (!((Lru.access ((Lru.run (⟨3, []⟩ : DCache) ([1, 2, 3, 4, 1, 2, 5, 1, 2, 3, 4, 5])).1) (9 : Int)).2.1))) && (((Lru.access ((Lru.run (⟨3, []⟩ : DCache) ([1, 2, 3, 4, 1, 2, 5, 1, 2, 3, 4, 5])).1) (9 : Int)).2.2) == 3)) && ((Lru.accessErr ((Lru.run (⟨3, []⟩ : DCache) ([1, 2, 3, 4, 1, 2, 5, 1, 2, 3, 4, 5])).1) (9 : Int)) == 0)) && (Ref.sameInts (((Lru.resize ((Lru.access ((Lru.run (⟨3, []⟩ : DCache) ([1, 2, 3, 4, 1, 2, 5, 1, 2, 3, 4, 5])).1) (9 : Int)).1) (1 : Int)).1).keys) ([9])))) rfl) rfl rfl rfl ?_
  refine o_and (p := 82) 4 (Ref.sameInts ((Lru.resize ((Lru.access ((Lru.run (⟨3, []⟩ : DCache) ([1, 2, 3, 4, 1, 2, 5, 1, 2, 3, 4, 5])).1) (9 : Int)).1) (1 : Int)).2) ([4, 5])) ?_ ?_ ?_
  · intro hb49 hk
    simp only [Bool.and_eq_true, beq_iff_eq, Bool.not_eq_true'] at hb49
    refine o_unguard 78 rfl rfl ?_
    refine o_pure (p_move (v := .slice a22 ((Lru.resize ((Lru.access ((Lru.run (⟨3, []⟩ : DCache) ([1, 2, 3, 4, 1, 2, 5, 1, 2, 3, 4, 5])).1) (9 : Int)).1) (1 : Int)).2).length c23) rfl) rfl rfl rfl ?_
    refine o_unguard 78 rfl rfl ?_
    refine o_buildSlice (m := 2) (T := tInt) (L := [4, 5]) (vs := [.int .i64 4, .int .i64 5]) rfl rfl rfl rfl Try.underlying22 sz3 (by decide) ze3 rfl (by decide) rfl (fun S50 a51 => ?_)
    refine o_unguard 78 rfl rfl ?_
    refine o_call0 (v := .bool (Ref.sameInts ((Lru.resize ((Lru.access ((Lru.run (⟨3, []⟩ : DCache) ([1, 2, 3, 4, 1, 2, 5, 1, 2, 3, 4, 5])).1) (9 : Int)).1) (1 : Int)).2) ([4, 5]))) rfl (sameInts_ok ((Lru.resize ((Lru.access ((Lru.run (⟨3, []⟩ : DCache) ([1, 2, 3, 4, 1, 2, 5, 1, 2, 3, 4, 5])).1) (9 : Int)).1) (1 : Int)).2) a22 c23 ([4, 5]) a51 ([4, 5].length)) hf17 (fun w hw => ⟨(rd_ent (i := 5) rfl (fun w h => h.2)) w hw, (rd_own (i := 0) rfl) w hw⟩) rfl ?_
    refine o_pure (p_pick_true (u := .bool (Ref.sameInts ((Lru.resize ((Lru.access ((Lru.run (⟨3, []⟩ : DCache) ([1, 2, 3, 4, 1, 2, 5, 1, 2, 3, 4, 5])).1) (9 : Int)).1) (1 : Int)).2) ([4, 5]))) rfl rfl) rfl rfl rfl ?_
    exact o_sub (Sub.cons rfl (Sub.skip rfl (Sub.skip rfl (Sub.skip rfl (Sub.skip rfl (Sub.skip rfl (Sub.refl _))))))) (o_drop (List.Sublist.cons _ (List.Sublist.cons_cons _ (List.Sublist.cons_cons _ (List.Sublist.cons_cons _ (List.Sublist.cons_cons _ (List.Sublist.cons_cons _ (List.Sublist.cons_cons _ (List.Sublist.cons_cons _ (List.Sublist.cons_cons _ (List.Sublist.cons_cons _ (List.Sublist.cons_cons _ (List.Sublist.cons_cons _ (List.Sublist.slnil))))))))))))) hk)
  · intro hb49 hk
    refine o_guard_no rfl 78 rfl rfl rfl rfl rfl ?_
    refine o_guard_no rfl 78 rfl rfl rfl rfl rfl ?_
    refine o_guard_no rfl 78 rfl rfl rfl rfl rfl ?_
    refine o_pure (p_pick_false (v := .bool false) rfl rfl) rfl rfl rfl ?_
    exact o_sub (Sub.cons rfl (Sub.skip rfl (Sub.skip rfl (Sub.skip rfl (Sub.skip rfl (Sub.skip rfl (Sub.refl _))))))) hk
  refine o_pure (p_move (v := .bool (((((((((Ref.sameInts (((Lru.run (⟨3, []⟩ : DCache) ([1, 2, 3, 4, 1, 2, 5, 1, 2, 3, 4, 5])).1).keys) ([5, 4, 3])) && (((Lru.run (⟨3, []⟩ : DCache) ([1, 2, 3, 4, 1, 2, 5, 1, 2, 3, 4, 5])).2) == 2)) && ((Lru.runErr (⟨3, []⟩ : DCache) ([1, 2, 3, 4, 1, 2, 5, 1, 2, 3, 4, 5])) == 0)) && (Ref.sameInts (((Lru.access ((Lru.run (⟨3, []⟩ : DCache) ([1, 2, 3, 4, 1, 2, 5, 1, 2, 3, 4, 5])).1) (9 : Int)).1).keys) ([9, 5, 4]))) && (!((Lru.access ((Lru.run (⟨3, []⟩ : DCache) ([1, 2, 3, 4, 1, 2, 5, 1, 2, 3, 4, 5])).1) (9 : Int)).2.1))) && (((Lru.access ((Lru.run (⟨3, []⟩ : DCache) ([1, 2, 3, 4, 1, 2, 5, 1, 2, 3, 4, 5])).1) (9 : Int)).2.2) == 3)) && ((Lru.accessErr ((Lru.run (⟨3, []⟩ : DCache) ([1, 2, 3, 4, 1, 2, 5, 1, 2, 3, 4, 5])).1) (9 : Int)) == 0)) && (Ref.sameInts (((Lru.resize ((Lru.access ((Lru.run (⟨3, []⟩ : DCache) ([1, 2, 3, 4, 1, 2, 5, 1, 2, 3, 4, 5])).1) (9 : Int)).1) (1 : Int)).1).keys) ([9]))) && (Ref.sameInts ((Lru.resize ((Lru.access ((Lru.run (⟨3, []⟩ : DCache) ([1, 2, 3, 4, 1, 2, 5, 1, 2, 3, 4, 5])).1) (9 : Int)).1) (1 : Int)).2) ([4, 5])))) rfl) rfl rfl rfl ?_
  refine o_and (p := 86) 3 ((Lru.sizeErr ((Lru.access ((Lru.run (⟨3, []⟩ : DCache) ([1, 2, 3, 4, 1, 2, 5, 1, 2, 3, 4, 5])).1) (9 : Int)).1) (1 : Int)) == 0) ?_ ?_ ?_
  · intro hb53 hk
    simp only [Bool.and_eq_true, beq_iff_eq, Bool.not_eq_true'] at hb53
    refine o_unguard 83 rfl rfl ?_
    refine o_pure (p_move (v := .int .i64 (Lru.sizeErr ((Lru.access ((Lru.run (⟨3, []⟩ : DCache) ([1, 2, 3, 4, 1, 2, 5, 1, 2, 3, 4, 5])).1) (9 : Int)).1) (1 : Int))) rfl) rfl rfl rfl ?_
    refine o_unguard 83 rfl rfl ?_
    refine o_pure (p_eq (p := (Lru.sizeErr ((Lru.access ((Lru.run (⟨3, []⟩ : DCache) ([1, 2, 3, 4, 1, 2, 5, 1, 2, 3, 4, 5])).1) (9 : Int)).1) (1 : Int))) (q := 0) rfl rfl) rfl rfl rfl ?_
    refine o_pure (p_pick_true (u := .bool ((Lru.sizeErr ((Lru.access ((Lru.run (⟨3, []⟩ : DCache) ([1, 2, 3, 4, 1, 2, 5, 1, 2, 3, 4, 5])).1) (9 : Int)).1) (1 : Int)) == 0)) rfl rfl) rfl rfl rfl ?_
    exact o_sub (Sub.cons rfl (Sub.skip rfl (Sub.skip rfl (Sub.skip rfl (Sub.skip rfl (Sub.refl _)))))) hk
  · intro hb53 hk
    refine o_guard_no rfl 83 rfl rfl rfl rfl rfl ?_
    refine o_guard_no rfl 83 rfl rfl rfl rfl rfl ?_
    refine o_pure (p_pick_false (v := .bool false) rfl rfl) rfl rfl rfl ?_
    exact o_sub (Sub.cons rfl (Sub.skip rfl (Sub.skip rfl (Sub.skip rfl (Sub.skip rfl (Sub.refl _)))))) hk
  refine o_pure (p_move (v := .bool ((((((((((Ref.sameInts (((Lru.run (⟨3, []⟩ : DCache) ([1, 2, 3, 4, 1, 2, 5, 1, 2, 3, 4, 5])).1).keys) ([5, 4, 3])) && (((Lru.run (⟨3, []⟩ : DCache) ([1, 2, 3, 4, 1, 2, 5, 1, 2, 3, 4, 5])).2) == 2)) && ((Lru.runErr (⟨3, []⟩ : DCache) ([1, 2, 3, 4, 1, 2, 5, 1, 2, 3, 4, 5])) == 0)) && (Ref.sameInts (((Lru.access ((Lru.run (⟨3, []⟩ : DCache) ([1, 2, 3, 4, 1, 2, 5, 1, 2, 3, 4, 5])).1) (9 : Int)).1).keys) ([9, 5, 4]))) && (!((Lru.access ((Lru.run (⟨3, []⟩ : DCache) ([1, 2, 3, 4, 1, 2, 5, 1, 2, 3, 4, 5])).1) (9 : Int)).2.1))) && (((Lru.access ((Lru.run (⟨3, []⟩ : DCache) ([1, 2, 3, 4, 1, 2, 5, 1, 2, 3, 4, 5])).1) (9 : Int)).2.2) == 3)) && ((Lru.accessErr ((Lru.run (⟨3, []⟩ : DCache) ([1, 2, 3, 4, 1, 2, 5, 1, 2, 3, 4, 5])).1) (9 : Int)) == 0)) && (Ref.sameInts (((Lru.resize ((Lru.access ((Lru.run (⟨3, []⟩ : DCache) ([1, 2, 3, 4, 1, 2, 5, 1, 2, 3, 4, 5])).1) (9 : Int)).1) (1 : Int)).1).keys) ([9]))) && (Ref.sameInts ((Lru.resize ((Lru.access ((Lru.run (⟨3, []⟩ : DCache) ([1, 2, 3, 4, 1, 2, 5, 1, 2, 3, 4, 5])).1) (9 : Int)).1) (1 : Int)).2) ([4, 5]))) && ((Lru.sizeErr ((Lru.access ((Lru.run (⟨3, []⟩ : DCache) ([1, 2, 3, 4, 1, 2, 5, 1, 2, 3, 4, 5])).1) (9 : Int)).1) (1 : Int)) == 0))) rfl) rfl rfl rfl ?_
  refine o_and (p := 90) 3 ((Lru.accessErr ((Lru.run (⟨3, []⟩ : DCache) ([1, 2, 3, 4, 1, 2, 5, 1, 2, 3, 4, 5])).1) ((-1) : Int)) == 3) ?_ ?_ ?_
  · intro hb54 hk
    simp only [Bool.and_eq_true, beq_iff_eq, Bool.not_eq_true'] at hb54
    refine o_unguard 87 rfl rfl ?_
    refine o_pure (p_move (v := .int .i64 (Lru.accessErr ((Lru.run (⟨3, []⟩ : DCache) ([1, 2, 3, 4, 1, 2, 5, 1, 2, 3, 4, 5])).1) ((-1) : Int))) rfl) rfl rfl rfl ?_
    refine o_unguard 87 rfl rfl ?_
    refine o_pure (p_eq (p := (Lru.accessErr ((Lru.run (⟨3, []⟩ : DCache) ([1, 2, 3, 4, 1, 2, 5, 1, 2, 3, 4, 5])).1) ((-1) : Int))) (q := 3) rfl rfl) rfl rfl rfl ?_
    refine o_pure (p_pick_true (u := .bool ((Lru.accessErr ((Lru.run (⟨3, []⟩ : DCache) ([1, 2, 3, 4, 1, 2, 5, 1, 2, 3, 4, 5])).1) ((-1) : Int)) == 3)) rfl rfl) rfl rfl rfl ?_
    exact o_sub (Sub.cons rfl (Sub.skip rfl (Sub.skip rfl (Sub.skip rfl (Sub.skip rfl (Sub.refl _)))))) hk
  · intro hb54 hk
    refine o_guard_no rfl 87 rfl rfl rfl rfl rfl ?_
    refine o_guard_no rfl 87 rfl rfl rfl rfl rfl ?_
    refine o_pure (p_pick_false (v := .bool false) rfl rfl) rfl rfl rfl ?_
    exact o_sub (Sub.cons rfl (Sub.skip rfl (Sub.skip rfl (Sub.skip rfl (Sub.skip rfl (Sub.refl _)))))) hk
  refine o_pure (p_move (v := .bool (((((((((((Ref.sameInts (((Lru.run (⟨3, []⟩ : DCache) ([1, 2, 3, 4, 1, 2, 5, 1, 2, 3, 4, 5])).1).keys) ([5, 4, 3])) && (((Lru.run (⟨3, []⟩ : DCache) ([1, 2, 3, 4, 1, 2, 5, 1, 2, 3, 4, 5])).2) == 2)) && ((Lru.runErr (⟨3, []⟩ : DCache) ([1, 2, 3, 4, 1, 2, 5, 1, 2, 3, 4, 5])) == 0)) && (Ref.sameInts (((Lru.access ((Lru.run (⟨3, []⟩ : DCache) ([1, 2, 3, 4, 1, 2, 5, 1, 2, 3, 4, 5])).1) (9 : Int)).1).keys) ([9, 5, 4]))) && (!((Lru.access ((Lru.run (⟨3, []⟩ : DCache) ([1, 2, 3, 4, 1, 2, 5, 1, 2, 3, 4, 5])).1) (9 : Int)).2.1))) && (((Lru.access ((Lru.run (⟨3, []⟩ : DCache) ([1, 2, 3, 4, 1, 2, 5, 1, 2, 3, 4, 5])).1) (9 : Int)).2.2) == 3)) && ((Lru.accessErr ((Lru.run (⟨3, []⟩ : DCache) ([1, 2, 3, 4, 1, 2, 5, 1, 2, 3, 4, 5])).1) (9 : Int)) == 0)) && (Ref.sameInts (((Lru.resize ((Lru.access ((Lru.run (⟨3, []⟩ : DCache) ([1, 2, 3, 4, 1, 2, 5, 1, 2, 3, 4, 5])).1) (9 : Int)).1) (1 : Int)).1).keys) ([9]))) && (Ref.sameInts ((Lru.resize ((Lru.access ((Lru.run (⟨3, []⟩ : DCache) ([1, 2, 3, 4, 1, 2, 5, 1, 2, 3, 4, 5])).1) (9 : Int)).1) (1 : Int)).2) ([4, 5]))) && ((Lru.sizeErr ((Lru.access ((Lru.run (⟨3, []⟩ : DCache) ([1, 2, 3, 4, 1, 2, 5, 1, 2, 3, 4, 5])).1) (9 : Int)).1) (1 : Int)) == 0)) && ((Lru.accessErr ((Lru.run (⟨3, []⟩ : DCache) ([1, 2, 3, 4, 1, 2, 5, 1, 2, 3, 4, 5])).1) ((-1) : Int)) == 3))) rfl) rfl rfl rfl ?_
  refine o_and (p := 95) 4 ((Lru.check (⟨0, []⟩ : DCache)) == 3) ?_ ?_ ?_
  · intro hb55 hk
    simp only [Bool.and_eq_true, beq_iff_eq, Bool.not_eq_true'] at hb55
    refine o_unguard 91 rfl rfl ?_
    refine o_pure (p_build (cells := [.int .i64 0, .slice none 0 0]) fp24 ze24 rfl rfl) rfl rfl rfl ?_
    refine o_unguard 91 rfl rfl ?_
    refine o_call0 (v := .int .i64 (Lru.check (⟨0, []⟩ : DCache))) rfl (lcheck_ok (⟨0, []⟩ : DCache) none 0) hf55 (fun w hw => rd_nil w hw) rfl ?_
    refine o_unguard 91 rfl rfl ?_
    refine o_pure (p_eq (p := (Lru.check (⟨0, []⟩ : DCache))) (q := 3) rfl rfl) rfl rfl rfl ?_
    refine o_pure (p_pick_true (u := .bool ((Lru.check (⟨0, []⟩ : DCache)) == 3)) rfl rfl) rfl rfl rfl ?_
    exact o_sub (Sub.cons rfl (Sub.skip rfl (Sub.skip rfl (Sub.skip rfl (Sub.skip rfl (Sub.skip rfl (Sub.refl _))))))) hk
  · intro hb55 hk
    refine o_guard_no rfl 91 rfl rfl rfl rfl rfl ?_
    refine o_guard_no rfl 91 rfl rfl rfl rfl rfl ?_
    refine o_guard_no rfl 91 rfl rfl rfl rfl rfl ?_
    refine o_pure (p_pick_false (v := .bool false) rfl rfl) rfl rfl rfl ?_
    exact o_sub (Sub.cons rfl (Sub.skip rfl (Sub.skip rfl (Sub.skip rfl (Sub.skip rfl (Sub.skip rfl (Sub.refl _))))))) hk
  refine o_pure (p_move (v := .bool ((((((((((((Ref.sameInts (((Lru.run (⟨3, []⟩ : DCache) ([1, 2, 3, 4, 1, 2, 5, 1, 2, 3, 4, 5])).1).keys) ([5, 4, 3])) && (((Lru.run (⟨3, []⟩ : DCache) ([1, 2, 3, 4, 1, 2, 5, 1, 2, 3, 4, 5])).2) == 2)) && ((Lru.runErr (⟨3, []⟩ : DCache) ([1, 2, 3, 4, 1, 2, 5, 1, 2, 3, 4, 5])) == 0)) && (Ref.sameInts (((Lru.access ((Lru.run (⟨3, []⟩ : DCache) ([1, 2, 3, 4, 1, 2, 5, 1, 2, 3, 4, 5])).1) (9 : Int)).1).keys) ([9, 5, 4]))) && (!((Lru.access ((Lru.run (⟨3, []⟩ : DCache) ([1, 2, 3, 4, 1, 2, 5, 1, 2, 3, 4, 5])).1) (9 : Int)).2.1))) && (((Lru.access ((Lru.run (⟨3, []⟩ : DCache) ([1, 2, 3, 4, 1, 2, 5, 1, 2, 3, 4, 5])).1) (9 : Int)).2.2) == 3)) && ((Lru.accessErr ((Lru.run (⟨3, []⟩ : DCache) ([1, 2, 3, 4, 1, 2, 5, 1, 2, 3, 4, 5])).1) (9 : Int)) == 0)) && (Ref.sameInts (((Lru.resize ((Lru.access ((Lru.run (⟨3, []⟩ : DCache) ([1, 2, 3, 4, 1, 2, 5, 1, 2, 3, 4, 5])).1) (9 : Int)).1) (1 : Int)).1).keys) ([9]))) && (Ref.sameInts ((Lru.resize ((Lru.access ((Lru.run (⟨3, []⟩ : DCache) ([1, 2, 3, 4, 1, 2, 5, 1, 2, 3, 4, 5])).1) (9 : Int)).1) (1 : Int)).2) ([4, 5]))) && ((Lru.sizeErr ((Lru.access ((Lru.run (⟨3, []⟩ : DCache) ([1, 2, 3, 4, 1, 2, 5, 1, 2, 3, 4, 5])).1) (9 : Int)).1) (1 : Int)) == 0)) && ((Lru.accessErr ((Lru.run (⟨3, []⟩ : DCache) ([1, 2, 3, 4, 1, 2, 5, 1, 2, 3, 4, 5])).1) ((-1) : Int)) == 3)) && ((Lru.check (⟨0, []⟩ : DCache)) == 3))) rfl) rfl rfl rfl ?_
  refine o_and (p := 99) 3 ((Lru.trace []) == 0) ?_ ?_ ?_
  · intro hb56 hk
    simp only [Bool.and_eq_true, beq_iff_eq, Bool.not_eq_true'] at hb56
    refine o_unguard 96 rfl rfl ?_
    refine o_call0 (v := .int .i64 (Lru.trace [])) rfl (checkTrace_ok [] none 0) hf56 (fun w hw => rd_nil w hw) rfl ?_
    refine o_unguard 96 rfl rfl ?_
    refine o_pure (p_eq (p := (Lru.trace [])) (q := 0) rfl rfl) rfl rfl rfl ?_
    refine o_pure (p_pick_true (u := .bool ((Lru.trace []) == 0)) rfl rfl) rfl rfl rfl ?_
    exact o_sub (Sub.cons rfl (Sub.skip rfl (Sub.skip rfl (Sub.skip rfl (Sub.skip rfl (Sub.refl _)))))) hk
  · intro hb56 hk
    refine o_guard_no rfl 96 rfl rfl rfl rfl rfl ?_
    refine o_guard_no rfl 96 rfl rfl rfl rfl rfl ?_
    refine o_pure (p_pick_false (v := .bool false) rfl rfl) rfl rfl rfl ?_
    exact o_sub (Sub.cons rfl (Sub.skip rfl (Sub.skip rfl (Sub.skip rfl (Sub.skip rfl (Sub.refl _)))))) hk
  refine o_pure (p_assign (v := .bool (((((((((((((Ref.sameInts (((Lru.run (⟨3, []⟩ : DCache) ([1, 2, 3, 4, 1, 2, 5, 1, 2, 3, 4, 5])).1).keys) ([5, 4, 3])) && (((Lru.run (⟨3, []⟩ : DCache) ([1, 2, 3, 4, 1, 2, 5, 1, 2, 3, 4, 5])).2) == 2)) && ((Lru.runErr (⟨3, []⟩ : DCache) ([1, 2, 3, 4, 1, 2, 5, 1, 2, 3, 4, 5])) == 0)) && (Ref.sameInts (((Lru.access ((Lru.run (⟨3, []⟩ : DCache) ([1, 2, 3, 4, 1, 2, 5, 1, 2, 3, 4, 5])).1) (9 : Int)).1).keys) ([9, 5, 4]))) && (!((Lru.access ((Lru.run (⟨3, []⟩ : DCache) ([1, 2, 3, 4, 1, 2, 5, 1, 2, 3, 4, 5])).1) (9 : Int)).2.1))) && (((Lru.access ((Lru.run (⟨3, []⟩ : DCache) ([1, 2, 3, 4, 1, 2, 5, 1, 2, 3, 4, 5])).1) (9 : Int)).2.2) == 3)) && ((Lru.accessErr ((Lru.run (⟨3, []⟩ : DCache) ([1, 2, 3, 4, 1, 2, 5, 1, 2, 3, 4, 5])).1) (9 : Int)) == 0)) && (Ref.sameInts (((Lru.resize ((Lru.access ((Lru.run (⟨3, []⟩ : DCache) ([1, 2, 3, 4, 1, 2, 5, 1, 2, 3, 4, 5])).1) (9 : Int)).1) (1 : Int)).1).keys) ([9]))) && (Ref.sameInts ((Lru.resize ((Lru.access ((Lru.run (⟨3, []⟩ : DCache) ([1, 2, 3, 4, 1, 2, 5, 1, 2, 3, 4, 5])).1) (9 : Int)).1) (1 : Int)).2) ([4, 5]))) && ((Lru.sizeErr ((Lru.access ((Lru.run (⟨3, []⟩ : DCache) ([1, 2, 3, 4, 1, 2, 5, 1, 2, 3, 4, 5])).1) (9 : Int)).1) (1 : Int)) == 0)) && ((Lru.accessErr ((Lru.run (⟨3, []⟩ : DCache) ([1, 2, 3, 4, 1, 2, 5, 1, 2, 3, 4, 5])).1) ((-1) : Int)) == 3)) && ((Lru.check (⟨0, []⟩ : DCache)) == 3)) && ((Lru.trace []) == 0))) rfl) rfl rfl rfl ?_
  refine o_nil ?_
  refine q_then ?_
  refine c_ret ?_
  have hr0 : ((((((((((((((Ref.sameInts (((Lru.run (⟨3, []⟩ : DCache) ([1, 2, 3, 4, 1, 2, 5, 1, 2, 3, 4, 5])).1).keys) ([5, 4, 3])) && (((Lru.run (⟨3, []⟩ : DCache) ([1, 2, 3, 4, 1, 2, 5, 1, 2, 3, 4, 5])).2) == 2)) && ((Lru.runErr (⟨3, []⟩ : DCache) ([1, 2, 3, 4, 1, 2, 5, 1, 2, 3, 4, 5])) == 0)) && (Ref.sameInts (((Lru.access ((Lru.run (⟨3, []⟩ : DCache) ([1, 2, 3, 4, 1, 2, 5, 1, 2, 3, 4, 5])).1) (9 : Int)).1).keys) ([9, 5, 4]))) && (!((Lru.access ((Lru.run (⟨3, []⟩ : DCache) ([1, 2, 3, 4, 1, 2, 5, 1, 2, 3, 4, 5])).1) (9 : Int)).2.1))) && (((Lru.access ((Lru.run (⟨3, []⟩ : DCache) ([1, 2, 3, 4, 1, 2, 5, 1, 2, 3, 4, 5])).1) (9 : Int)).2.2) == 3)) && ((Lru.accessErr ((Lru.run (⟨3, []⟩ : DCache) ([1, 2, 3, 4, 1, 2, 5, 1, 2, 3, 4, 5])).1) (9 : Int)) == 0)) && (Ref.sameInts (((Lru.resize ((Lru.access ((Lru.run (⟨3, []⟩ : DCache) ([1, 2, 3, 4, 1, 2, 5, 1, 2, 3, 4, 5])).1) (9 : Int)).1) (1 : Int)).1).keys) ([9]))) && (Ref.sameInts ((Lru.resize ((Lru.access ((Lru.run (⟨3, []⟩ : DCache) ([1, 2, 3, 4, 1, 2, 5, 1, 2, 3, 4, 5])).1) (9 : Int)).1) (1 : Int)).2) ([4, 5]))) && ((Lru.sizeErr ((Lru.access ((Lru.run (⟨3, []⟩ : DCache) ([1, 2, 3, 4, 1, 2, 5, 1, 2, 3, 4, 5])).1) (9 : Int)).1) (1 : Int)) == 0)) && ((Lru.accessErr ((Lru.run (⟨3, []⟩ : DCache) ([1, 2, 3, 4, 1, 2, 5, 1, 2, 3, 4, 5])).1) ((-1) : Int)) == 3)) && ((Lru.check (⟨0, []⟩ : DCache)) == 3)) && ((Lru.trace []) == 0)) : Bool) = true := by
    first | rfl | decide +kernel
  refine q_end0 (v := .bool (((((((((((((Ref.sameInts (((Lru.run (⟨3, []⟩ : DCache) ([1, 2, 3, 4, 1, 2, 5, 1, 2, 3, 4, 5])).1).keys) ([5, 4, 3])) && (((Lru.run (⟨3, []⟩ : DCache) ([1, 2, 3, 4, 1, 2, 5, 1, 2, 3, 4, 5])).2) == 2)) && ((Lru.runErr (⟨3, []⟩ : DCache) ([1, 2, 3, 4, 1, 2, 5, 1, 2, 3, 4, 5])) == 0)) && (Ref.sameInts (((Lru.access ((Lru.run (⟨3, []⟩ : DCache) ([1, 2, 3, 4, 1, 2, 5, 1, 2, 3, 4, 5])).1) (9 : Int)).1).keys) ([9, 5, 4]))) && (!((Lru.access ((Lru.run (⟨3, []⟩ : DCache) ([1, 2, 3, 4, 1, 2, 5, 1, 2, 3, 4, 5])).1) (9 : Int)).2.1))) && (((Lru.access ((Lru.run (⟨3, []⟩ : DCache) ([1, 2, 3, 4, 1, 2, 5, 1, 2, 3, 4, 5])).1) (9 : Int)).2.2) == 3)) && ((Lru.accessErr ((Lru.run (⟨3, []⟩ : DCache) ([1, 2, 3, 4, 1, 2, 5, 1, 2, 3, 4, 5])).1) (9 : Int)) == 0)) && (Ref.sameInts (((Lru.resize ((Lru.access ((Lru.run (⟨3, []⟩ : DCache) ([1, 2, 3, 4, 1, 2, 5, 1, 2, 3, 4, 5])).1) (9 : Int)).1) (1 : Int)).1).keys) ([9]))) && (Ref.sameInts ((Lru.resize ((Lru.access ((Lru.run (⟨3, []⟩ : DCache) ([1, 2, 3, 4, 1, 2, 5, 1, 2, 3, 4, 5])).1) (9 : Int)).1) (1 : Int)).2) ([4, 5]))) && ((Lru.sizeErr ((Lru.access ((Lru.run (⟨3, []⟩ : DCache) ([1, 2, 3, 4, 1, 2, 5, 1, 2, 3, 4, 5])).1) (9 : Int)).1) (1 : Int)) == 0)) && ((Lru.accessErr ((Lru.run (⟨3, []⟩ : DCache) ([1, 2, 3, 4, 1, 2, 5, 1, 2, 3, 4, 5])).1) ((-1) : Int)) == 3)) && ((Lru.check (⟨0, []⟩ : DCache)) == 3)) && ((Lru.trace []) == 0))) (rt1 rfl (r_tmp rfl)) (i := 10) rfl ?_
  exact (by have hcc := congrArg (fun (y0 : Bool) => (.bool y0 : Value)) hr0; exact hcc)
end Go.Proofs.Ythbfdhphnofacad
