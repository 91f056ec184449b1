/- The walks, printed by a program from the translation and a specification. -/
import Derived.Test.YtagbihjkdejdjaaLfF
import Derived.Test.YtagbihjkdejdjaaLfLaw5
import Derived.Test.YtagbihjkdejdjaaLfW6
import Derived.Test.YtagbihjkdejdjaaLfW7
import Derived.Test.YtagbihjkdejdjaaLfW13
namespace Go.Proofs.Ytagbihjkdejdjaa
open Go.Sx Go.RowKit
set_option maxHeartbeats 8000000 in
set_option maxRecDepth 100000 in
theorem lfuBegun_ok  : Fn0 Try.prog 24 [] (fun _ => True) (.bool true) := by
  refine fn0 (nt := 115) (F0 := []) Try.func24 rfl Try.ntmps24 rfl rfl (fun w0 hpre => ?_)
  refine c_seq ?_
  refine c_region ?_
  refine o_pure (p_assign (v := .bool false) rfl) rfl rfl rfl ?_
  refine o_nil ?_
  refine q_then ?_
  refine c_seq ?_
  refine c_region ?_
  refine o_pure (p_build (cells := [.int .i64 2, .slice none 0 0]) fp24 ze24 rfl rfl) rfl rfl rfl ?_
  refine o_buildSlice (m := 4) (T := tInt) (L := [1, 1, 2, 3]) (vs := [.int .i64 1, .int .i64 1, .int .i64 2, .int .i64 3]) rfl rfl rfl rfl Try.underlying25 sz3 (by decide) ze3 rfl (by decide) rfl (fun S1 a2 => ?_)
  refine o_callM rfl (frun_ok (⟨2, []⟩ : DUses) none 0 ([1, 1, 2, 3]) a2 ([1, 1, 2, 3].length)) hf16 (fun w hw => ⟨rd_nil w hw, (rd_own (i := 0) rfl) w hw⟩) rfl (fun _ _ _ _ ha hA => SlO.agree ha hA) ?_
  rintro ⟨a6, c7⟩ S4
  refine o_know (fun w hw => own_len (i := 0) (T := tUse) hw rfl) (fun hlr8 => ?_)
  refine o_pure (p_move (v := .tuple #[.agg #[.int .i64 (((Lfu.run (⟨2, []⟩ : DUses) ([1, 1, 2, 3])).1).room), .slice a6 (((Lfu.run (⟨2, []⟩ : DUses) ([1, 1, 2, 3])).1).list).length c7], .int .i64 ((Lfu.run (⟨2, []⟩ : DUses) ([1, 1, 2, 3])).2), .int .i64 (Lfu.runErr (⟨2, []⟩ : DUses) ([1, 1, 2, 3]))]) rfl) rfl rfl rfl ?_
  refine o_pure (p_extract (vs := [.agg #[.int .i64 (((Lfu.run (⟨2, []⟩ : DUses) ([1, 1, 2, 3])).1).room), .slice a6 (((Lfu.run (⟨2, []⟩ : DUses) ([1, 1, 2, 3])).1).list).length c7], .int .i64 ((Lfu.run (⟨2, []⟩ : DUses) ([1, 1, 2, 3])).2), .int .i64 (Lfu.runErr (⟨2, []⟩ : DUses) ([1, 1, 2, 3]))]) (v := .agg #[.int .i64 (((Lfu.run (⟨2, []⟩ : DUses) ([1, 1, 2, 3])).1).room), .slice a6 (((Lfu.run (⟨2, []⟩ : DUses) ([1, 1, 2, 3])).1).list).length c7]) rfl rfl) rfl rfl rfl ?_
  refine o_pure (p_extract (vs := [.agg #[.int .i64 (((Lfu.run (⟨2, []⟩ : DUses) ([1, 1, 2, 3])).1).room), .slice a6 (((Lfu.run (⟨2, []⟩ : DUses) ([1, 1, 2, 3])).1).list).length c7], .int .i64 ((Lfu.run (⟨2, []⟩ : DUses) ([1, 1, 2, 3])).2), .int .i64 (Lfu.runErr (⟨2, []⟩ : DUses) ([1, 1, 2, 3]))]) (v := .int .i64 ((Lfu.run (⟨2, []⟩ : DUses) ([1, 1, 2, 3])).2)) rfl rfl) rfl rfl rfl ?_
  refine o_pure (p_extract (vs := [.agg #[.int .i64 (((Lfu.run (⟨2, []⟩ : DUses) ([1, 1, 2, 3])).1).room), .slice a6 (((Lfu.run (⟨2, []⟩ : DUses) ([1, 1, 2, 3])).1).list).length c7], .int .i64 ((Lfu.run (⟨2, []⟩ : DUses) ([1, 1, 2, 3])).2), .int .i64 (Lfu.runErr (⟨2, []⟩ : DUses) ([1, 1, 2, 3]))]) (v := .int .i64 (Lfu.runErr (⟨2, []⟩ : DUses) ([1, 1, 2, 3]))) rfl rfl) rfl rfl rfl ?_
  refine o_alloc ze24 rfl (fun B9 => ?_)
  refine o_storeN (i := 0) (vs := [.int .i64 (((Lfu.run (⟨2, []⟩ : DUses) ([1, 1, 2, 3])).1).room), .slice a6 (((Lfu.run (⟨2, []⟩ : DUses) ([1, 1, 2, 3])).1).list).length c7]) (cs' := [.int .i64 (((Lfu.run (⟨2, []⟩ : DUses) ([1, 1, 2, 3])).1).room), .slice a6 (((Lfu.run (⟨2, []⟩ : DUses) ([1, 1, 2, 3])).1).list).length c7]) rfl rfl rfl sz24 rfl rfl rfl rfl ?_
  refine o_pure (p_assign (v := .int .i64 ((Lfu.run (⟨2, []⟩ : DUses) ([1, 1, 2, 3])).2)) rfl) rfl rfl rfl ?_
  refine o_pure (p_assign (v := .int .i64 (Lfu.runErr (⟨2, []⟩ : DUses) ([1, 1, 2, 3]))) rfl) rfl rfl rfl ?_
  refine o_nil ?_
  refine q_then ?_
  refine c_seq ?_
  refine c_region ?_
  refine o_pure (p_load_agg (i := 0) (vs := [.int .i64 (((Lfu.run (⟨2, []⟩ : DUses) ([1, 1, 2, 3])).1).room), .slice a6 (((Lfu.run (⟨2, []⟩ : DUses) ([1, 1, 2, 3])).1).list).length c7]) rfl rfl sh24 rfl rfl) rfl rfl rfl ?_
  refine o_call0 (v := .tuple #[.int .i64 (Lfu.victim ((Lfu.run (⟨2, []⟩ : DUses) ([1, 1, 2, 3])).1)), .int .i64 (Lfu.victimErr ((Lfu.run (⟨2, []⟩ : DUses) ([1, 1, 2, 3])).1))]) rfl (fvictim_ok ((Lfu.run (⟨2, []⟩ : DUses) ([1, 1, 2, 3])).1) a6 c7) hf18 (fun w hw => (rd_own (i := 1) rfl) w hw) rfl ?_
  refine o_pure (p_move (v := .tuple #[.int .i64 (Lfu.victim ((Lfu.run (⟨2, []⟩ : DUses) ([1, 1, 2, 3])).1)), .int .i64 (Lfu.victimErr ((Lfu.run (⟨2, []⟩ : DUses) ([1, 1, 2, 3])).1))]) rfl) rfl rfl rfl ?_
  refine o_pure (p_extract (vs := [.int .i64 (Lfu.victim ((Lfu.run (⟨2, []⟩ : DUses) ([1, 1, 2, 3])).1)), .int .i64 (Lfu.victimErr ((Lfu.run (⟨2, []⟩ : DUses) ([1, 1, 2, 3])).1))]) (v := .int .i64 (Lfu.victim ((Lfu.run (⟨2, []⟩ : DUses) ([1, 1, 2, 3])).1))) rfl rfl) rfl rfl rfl ?_
  refine o_pure (p_extract (vs := [.int .i64 (Lfu.victim ((Lfu.run (⟨2, []⟩ : DUses) ([1, 1, 2, 3])).1)), .int .i64 (Lfu.victimErr ((Lfu.run (⟨2, []⟩ : DUses) ([1, 1, 2, 3])).1))]) (v := .int .i64 (Lfu.victimErr ((Lfu.run (⟨2, []⟩ : DUses) ([1, 1, 2, 3])).1))) rfl rfl) rfl rfl rfl ?_
  refine o_pure (p_assign (v := .int .i64 (Lfu.victim ((Lfu.run (⟨2, []⟩ : DUses) ([1, 1, 2, 3])).1))) rfl) rfl rfl rfl ?_
  refine o_pure (p_assign (v := .int .i64 (Lfu.victimErr ((Lfu.run (⟨2, []⟩ : DUses) ([1, 1, 2, 3])).1))) rfl) rfl rfl rfl ?_
  refine o_nil ?_
  refine q_then ?_
  refine c_seq ?_
  refine c_region ?_
  refine o_pure (p_load_agg (i := 0) (vs := [.int .i64 (((Lfu.run (⟨2, []⟩ : DUses) ([1, 1, 2, 3])).1).room), .slice a6 (((Lfu.run (⟨2, []⟩ : DUses) ([1, 1, 2, 3])).1).list).length c7]) rfl rfl sh24 rfl rfl) rfl rfl rfl ?_
  refine o_callM rfl (faccess_ok ((Lfu.run (⟨2, []⟩ : DUses) ([1, 1, 2, 3])).1) a6 c7 (4 : Int)) hf15 (fun w hw => (rd_own (i := 1) rfl) w hw) rfl (fun _ _ _ _ ha hA => SlO.agree ha hA) ?_
  rintro ⟨a12, c13⟩ S10
  refine o_know (fun w hw => own_len (i := 0) (T := tUse) hw rfl) (fun hlr14 => ?_)
  refine o_pure (p_move (v := .tuple #[.agg #[.int .i64 (((Lfu.access ((Lfu.run (⟨2, []⟩ : DUses) ([1, 1, 2, 3])).1) (4 : Int)).1).room), .slice a12 (((Lfu.access ((Lfu.run (⟨2, []⟩ : DUses) ([1, 1, 2, 3])).1) (4 : Int)).1).list).length c13], .bool ((Lfu.access ((Lfu.run (⟨2, []⟩ : DUses) ([1, 1, 2, 3])).1) (4 : Int)).2.1), .int .i64 ((Lfu.access ((Lfu.run (⟨2, []⟩ : DUses) ([1, 1, 2, 3])).1) (4 : Int)).2.2), .int .i64 (Lfu.accessErr ((Lfu.run (⟨2, []⟩ : DUses) ([1, 1, 2, 3])).1) (4 : Int))]) rfl) rfl rfl rfl ?_
  refine o_pure (p_extract (vs := [.agg #[.int .i64 (((Lfu.access ((Lfu.run (⟨2, []⟩ : DUses) ([1, 1, 2, 3])).1) (4 : Int)).1).room), .slice a12 (((Lfu.access ((Lfu.run (⟨2, []⟩ : DUses) ([1, 1, 2, 3])).1) (4 : Int)).1).list).length c13], .bool ((Lfu.access ((Lfu.run (⟨2, []⟩ : DUses) ([1, 1, 2, 3])).1) (4 : Int)).2.1), .int .i64 ((Lfu.access ((Lfu.run (⟨2, []⟩ : DUses) ([1, 1, 2, 3])).1) (4 : Int)).2.2), .int .i64 (Lfu.accessErr ((Lfu.run (⟨2, []⟩ : DUses) ([1, 1, 2, 3])).1) (4 : Int))]) (v := .agg #[.int .i64 (((Lfu.access ((Lfu.run (⟨2, []⟩ : DUses) ([1, 1, 2, 3])).1) (4 : Int)).1).room), .slice a12 (((Lfu.access ((Lfu.run (⟨2, []⟩ : DUses) ([1, 1, 2, 3])).1) (4 : Int)).1).list).length c13]) rfl rfl) rfl rfl rfl ?_
  refine o_pure (p_extract (vs := [.agg #[.int .i64 (((Lfu.access ((Lfu.run (⟨2, []⟩ : DUses) ([1, 1, 2, 3])).1) (4 : Int)).1).room), .slice a12 (((Lfu.access ((Lfu.run (⟨2, []⟩ : DUses) ([1, 1, 2, 3])).1) (4 : Int)).1).list).length c13], .bool ((Lfu.access ((Lfu.run (⟨2, []⟩ : DUses) ([1, 1, 2, 3])).1) (4 : Int)).2.1), .int .i64 ((Lfu.access ((Lfu.run (⟨2, []⟩ : DUses) ([1, 1, 2, 3])).1) (4 : Int)).2.2), .int .i64 (Lfu.accessErr ((Lfu.run (⟨2, []⟩ : DUses) ([1, 1, 2, 3])).1) (4 : Int))]) (v := .bool ((Lfu.access ((Lfu.run (⟨2, []⟩ : DUses) ([1, 1, 2, 3])).1) (4 : Int)).2.1)) rfl rfl) rfl rfl rfl ?_
  refine o_pure (p_extract (vs := [.agg #[.int .i64 (((Lfu.access ((Lfu.run (⟨2, []⟩ : DUses) ([1, 1, 2, 3])).1) (4 : Int)).1).room), .slice a12 (((Lfu.access ((Lfu.run (⟨2, []⟩ : DUses) ([1, 1, 2, 3])).1) (4 : Int)).1).list).length c13], .bool ((Lfu.access ((Lfu.run (⟨2, []⟩ : DUses) ([1, 1, 2, 3])).1) (4 : Int)).2.1), .int .i64 ((Lfu.access ((Lfu.run (⟨2, []⟩ : DUses) ([1, 1, 2, 3])).1) (4 : Int)).2.2), .int .i64 (Lfu.accessErr ((Lfu.run (⟨2, []⟩ : DUses) ([1, 1, 2, 3])).1) (4 : Int))]) (v := .int .i64 ((Lfu.access ((Lfu.run (⟨2, []⟩ : DUses) ([1, 1, 2, 3])).1) (4 : Int)).2.2)) rfl rfl) rfl rfl rfl ?_
  refine o_pure (p_extract (vs := [.agg #[.int .i64 (((Lfu.access ((Lfu.run (⟨2, []⟩ : DUses) ([1, 1, 2, 3])).1) (4 : Int)).1).room), .slice a12 (((Lfu.access ((Lfu.run (⟨2, []⟩ : DUses) ([1, 1, 2, 3])).1) (4 : Int)).1).list).length c13], .bool ((Lfu.access ((Lfu.run (⟨2, []⟩ : DUses) ([1, 1, 2, 3])).1) (4 : Int)).2.1), .int .i64 ((Lfu.access ((Lfu.run (⟨2, []⟩ : DUses) ([1, 1, 2, 3])).1) (4 : Int)).2.2), .int .i64 (Lfu.accessErr ((Lfu.run (⟨2, []⟩ : DUses) ([1, 1, 2, 3])).1) (4 : Int))]) (v := .int .i64 (Lfu.accessErr ((Lfu.run (⟨2, []⟩ : DUses) ([1, 1, 2, 3])).1) (4 : Int))) rfl rfl) rfl rfl rfl ?_
  refine o_alloc ze24 rfl (fun B15 => ?_)
  refine o_storeN (i := 0) (vs := [.int .i64 (((Lfu.access ((Lfu.run (⟨2, []⟩ : DUses) ([1, 1, 2, 3])).1) (4 : Int)).1).room), .slice a12 (((Lfu.access ((Lfu.run (⟨2, []⟩ : DUses) ([1, 1, 2, 3])).1) (4 : Int)).1).list).length c13]) (cs' := [.int .i64 (((Lfu.access ((Lfu.run (⟨2, []⟩ : DUses) ([1, 1, 2, 3])).1) (4 : Int)).1).room), .slice a12 (((Lfu.access ((Lfu.run (⟨2, []⟩ : DUses) ([1, 1, 2, 3])).1) (4 : Int)).1).list).length c13]) rfl rfl rfl sz24 rfl rfl rfl rfl ?_
  refine o_pure (p_assign (v := .bool ((Lfu.access ((Lfu.run (⟨2, []⟩ : DUses) ([1, 1, 2, 3])).1) (4 : Int)).2.1)) rfl) rfl rfl rfl ?_
  refine o_pure (p_assign (v := .int .i64 ((Lfu.access ((Lfu.run (⟨2, []⟩ : DUses) ([1, 1, 2, 3])).1) (4 : Int)).2.2)) rfl) rfl rfl rfl ?_
  refine o_pure (p_assign (v := .int .i64 (Lfu.accessErr ((Lfu.run (⟨2, []⟩ : DUses) ([1, 1, 2, 3])).1) (4 : Int))) rfl) rfl rfl rfl ?_
  refine o_nil ?_
  refine q_then ?_
  refine c_seq ?_
  refine c_region ?_
  refine o_pure (p_build (cells := [.int .i64 1, .int .i64 5]) fp42 ze42 rfl rfl) rfl rfl rfl ?_
  refine o_pure (p_build (cells := [.int .i64 2, .int .i64 1]) fp42 ze42 rfl rfl) rfl rfl rfl ?_
  refine o_buildSlice (m := 2) (T := tUse) (L := [(⟨1, 5⟩ : DUse), (⟨2, 1⟩ : DUse)]) (vs := [.agg #[.int .i64 1, .int .i64 5], .agg #[.int .i64 2, .int .i64 1]]) rfl rfl rfl rfl Try.underlying22 sz42 (by decide) ze42 rfl (by decide) rfl (fun S16 a17 => ?_)
  refine o_pure (p_build (cells := [.int .i64 2, .slice a17 ([(⟨1, 5⟩ : DUse), (⟨2, 1⟩ : DUse)]).length ([(⟨1, 5⟩ : DUse), (⟨2, 1⟩ : DUse)].length)]) fp24 ze24 rfl rfl) rfl rfl rfl ?_
  refine o_callM rfl (fage_ok (⟨2, [(⟨1, 5⟩ : DUse), (⟨2, 1⟩ : DUse)]⟩ : DUses) a17 ([(⟨1, 5⟩ : DUse), (⟨2, 1⟩ : DUse)].length)) hf17 (fun w hw => (rd_own (i := 0) rfl) w hw) rfl (fun _ _ _ _ ha hA => SlO.agree ha hA) ?_
  rintro ⟨a21, c22⟩ S19
  refine o_know (fun w hw => own_len (i := 0) (T := tUse) hw rfl) (fun hlr23 => ?_)
  refine o_pure (p_move (v := .tuple #[.agg #[.int .i64 ((Lfu.age (⟨2, [(⟨1, 5⟩ : DUse), (⟨2, 1⟩ : DUse)]⟩ : DUses)).room), .slice a21 ((Lfu.age (⟨2, [(⟨1, 5⟩ : DUse), (⟨2, 1⟩ : DUse)]⟩ : DUses)).list).length c22], .int .i64 (Lfu.check (⟨2, [(⟨1, 5⟩ : DUse), (⟨2, 1⟩ : DUse)]⟩ : DUses))]) rfl) rfl rfl rfl ?_
  refine o_pure (p_extract (vs := [.agg #[.int .i64 ((Lfu.age (⟨2, [(⟨1, 5⟩ : DUse), (⟨2, 1⟩ : DUse)]⟩ : DUses)).room), .slice a21 ((Lfu.age (⟨2, [(⟨1, 5⟩ : DUse), (⟨2, 1⟩ : DUse)]⟩ : DUses)).list).length c22], .int .i64 (Lfu.check (⟨2, [(⟨1, 5⟩ : DUse), (⟨2, 1⟩ : DUse)]⟩ : DUses))]) (v := .agg #[.int .i64 ((Lfu.age (⟨2, [(⟨1, 5⟩ : DUse), (⟨2, 1⟩ : DUse)]⟩ : DUses)).room), .slice a21 ((Lfu.age (⟨2, [(⟨1, 5⟩ : DUse), (⟨2, 1⟩ : DUse)]⟩ : DUses)).list).length c22]) rfl rfl) rfl rfl rfl ?_
  refine o_pure (p_extract (vs := [.agg #[.int .i64 ((Lfu.age (⟨2, [(⟨1, 5⟩ : DUse), (⟨2, 1⟩ : DUse)]⟩ : DUses)).room), .slice a21 ((Lfu.age (⟨2, [(⟨1, 5⟩ : DUse), (⟨2, 1⟩ : DUse)]⟩ : DUses)).list).length c22], .int .i64 (Lfu.check (⟨2, [(⟨1, 5⟩ : DUse), (⟨2, 1⟩ : DUse)]⟩ : DUses))]) (v := .int .i64 (Lfu.check (⟨2, [(⟨1, 5⟩ : DUse), (⟨2, 1⟩ : DUse)]⟩ : DUses))) rfl rfl) rfl rfl rfl ?_
  refine o_alloc ze24 rfl (fun B24 => ?_)
  refine o_storeN (i := 0) (vs := [.int .i64 ((Lfu.age (⟨2, [(⟨1, 5⟩ : DUse), (⟨2, 1⟩ : DUse)]⟩ : DUses)).room), .slice a21 ((Lfu.age (⟨2, [(⟨1, 5⟩ : DUse), (⟨2, 1⟩ : DUse)]⟩ : DUses)).list).length c22]) (cs' := [.int .i64 ((Lfu.age (⟨2, [(⟨1, 5⟩ : DUse), (⟨2, 1⟩ : DUse)]⟩ : DUses)).room), .slice a21 ((Lfu.age (⟨2, [(⟨1, 5⟩ : DUse), (⟨2, 1⟩ : DUse)]⟩ : DUses)).list).length c22]) rfl rfl rfl sz24 rfl rfl rfl rfl ?_
  refine o_pure (p_assign (v := .int .i64 (Lfu.check (⟨2, [(⟨1, 5⟩ : DUse), (⟨2, 1⟩ : DUse)]⟩ : DUses))) rfl) rfl rfl rfl ?_
  refine o_nil ?_
  refine q_then ?_
  refine c_seq ?_
  refine c_region ?_
  refine o_pure (p_build (cells := [.int .i64 1, .slice none 0 0]) fp24 ze24 rfl rfl) rfl rfl rfl ?_
  refine o_call0 (v := .tuple #[.int .i64 (Lfu.victim (⟨1, []⟩ : DUses)), .int .i64 (Lfu.victimErr (⟨1, []⟩ : DUses))]) rfl (fvictim_ok (⟨1, []⟩ : DUses) none 0) hf18 (fun w hw => rd_nil w hw) rfl ?_
  refine o_pure (p_move (v := .tuple #[.int .i64 (Lfu.victim (⟨1, []⟩ : DUses)), .int .i64 (Lfu.victimErr (⟨1, []⟩ : DUses))]) rfl) rfl rfl rfl ?_
  refine o_pure (p_extract (vs := [.int .i64 (Lfu.victim (⟨1, []⟩ : DUses)), .int .i64 (Lfu.victimErr (⟨1, []⟩ : DUses))]) (v := .int .i64 (Lfu.victim (⟨1, []⟩ : DUses))) rfl rfl) rfl rfl rfl ?_
  refine o_pure (p_extract (vs := [.int .i64 (Lfu.victim (⟨1, []⟩ : DUses)), .int .i64 (Lfu.victimErr (⟨1, []⟩ : DUses))]) (v := .int .i64 (Lfu.victimErr (⟨1, []⟩ : DUses))) rfl rfl) rfl rfl rfl ?_
  refine o_pure (p_assign (v := .int .i64 (Lfu.victim (⟨1, []⟩ : DUses))) rfl) rfl rfl rfl ?_
  refine o_pure (p_assign (v := .int .i64 (Lfu.victimErr (⟨1, []⟩ : DUses))) rfl) rfl rfl rfl ?_
  refine o_nil ?_
  refine q_then ?_
  refine c_seq ?_
  refine c_region ?_
  refine o_pure (p_move (v := .int .i64 ((Lfu.run (⟨2, []⟩ : DUses) ([1, 1, 2, 3])).2)) rfl) rfl rfl rfl ?_
  refine o_pure (p_eq (p := ((Lfu.run (⟨2, []⟩ : DUses) ([1, 1, 2, 3])).2)) (q := 1) rfl rfl) rfl rfl rfl ?_
  refine o_pure (p_move (v := .bool (((Lfu.run (⟨2, []⟩ : DUses) ([1, 1, 2, 3])).2) == 1)) rfl) rfl rfl rfl ?_
  refine o_and (p := 51) 3 ((Lfu.runErr (⟨2, []⟩ : DUses) ([1, 1, 2, 3])) == 0) ?_ ?_ ?_
  · intro hb25 hk
    simp only [beq_iff_eq] at hb25
    refine o_unguard 48 rfl rfl ?_
    refine o_pure (p_move (v := .int .i64 (Lfu.runErr (⟨2, []⟩ : DUses) ([1, 1, 2, 3]))) rfl) rfl rfl rfl ?_
    refine o_unguard 48 rfl rfl ?_
    refine o_pure (p_eq (p := (Lfu.runErr (⟨2, []⟩ : DUses) ([1, 1, 2, 3]))) (q := 0) rfl rfl) rfl rfl rfl ?_
    refine o_pure (p_pick_true (u := .bool ((Lfu.runErr (⟨2, []⟩ : DUses) ([1, 1, 2, 3])) == 0)) rfl rfl) rfl rfl rfl ?_
    exact o_sub (Sub.cons rfl (Sub.skip rfl (Sub.skip rfl (Sub.skip rfl (Sub.skip rfl (Sub.refl _)))))) hk
  · intro hb25 hk
    refine o_guard_no rfl 48 rfl rfl rfl rfl rfl ?_
    refine o_guard_no rfl 48 rfl rfl rfl rfl rfl ?_
    refine o_pure (p_pick_false (v := .bool false) rfl rfl) rfl rfl rfl ?_
    exact o_sub (Sub.cons rfl (Sub.skip rfl (Sub.skip rfl (Sub.skip rfl (Sub.skip rfl (Sub.refl _)))))) hk
  refine o_pure (p_move (v := .bool ((((Lfu.run (⟨2, []⟩ : DUses) ([1, 1, 2, 3])).2) == 1) && ((Lfu.runErr (⟨2, []⟩ : DUses) ([1, 1, 2, 3])) == 0))) rfl) rfl rfl rfl ?_
  refine o_and (p := 59) 7 (decide (((Lfu.run (⟨2, []⟩ : DUses) ([1, 1, 2, 3])).1) = (⟨2, [(⟨3, 1⟩ : DUse), (⟨1, 2⟩ : DUse)]⟩ : DUses))) ?_ ?_ ?_
  · intro hb26 hk
    simp only [Bool.and_eq_true, beq_iff_eq] at hb26
    refine o_unguard 52 rfl rfl ?_
    refine o_pure (p_load_agg (i := 5) (vs := [.int .i64 (((Lfu.run (⟨2, []⟩ : DUses) ([1, 1, 2, 3])).1).room), .slice a6 (((Lfu.run (⟨2, []⟩ : DUses) ([1, 1, 2, 3])).1).list).length c7]) rfl rfl sh24 rfl rfl) rfl rfl rfl ?_
    refine o_unguard 52 rfl rfl ?_
    refine o_pure (p_build (cells := [.int .i64 3, .int .i64 1]) fp42 ze42 rfl rfl) rfl rfl rfl ?_
    refine o_unguard 52 rfl rfl ?_
    refine o_pure (p_build (cells := [.int .i64 1, .int .i64 2]) fp42 ze42 rfl rfl) rfl rfl rfl ?_
    refine o_unguard 52 rfl rfl ?_
    refine o_buildSlice (m := 2) (T := tUse) (L := [(⟨3, 1⟩ : DUse), (⟨1, 2⟩ : DUse)]) (vs := [.agg #[.int .i64 3, .int .i64 1], .agg #[.int .i64 1, .int .i64 2]]) rfl rfl rfl rfl Try.underlying22 sz42 (by decide) ze42 rfl (by decide) rfl (fun S27 a28 => ?_)
    refine o_unguard 52 rfl rfl ?_
    refine o_pure (p_build (cells := [.int .i64 2, .slice a28 ([(⟨3, 1⟩ : DUse), (⟨1, 2⟩ : DUse)]).length ([(⟨3, 1⟩ : DUse), (⟨1, 2⟩ : DUse)].length)]) fp24 ze24 rfl rfl) rfl rfl rfl ?_
    refine o_unguard 52 rfl rfl ?_
    refine o_call0 (v := .bool (decide (((Lfu.run (⟨2, []⟩ : DUses) ([1, 1, 2, 3])).1) = (⟨2, [(⟨3, 1⟩ : DUse), (⟨1, 2⟩ : DUse)]⟩ : DUses)))) rfl (sameUses_ok ((Lfu.run (⟨2, []⟩ : DUses) ([1, 1, 2, 3])).1) a6 c7 (⟨2, [(⟨3, 1⟩ : DUse), (⟨1, 2⟩ : DUse)]⟩ : DUses) a28 ([(⟨3, 1⟩ : DUse), (⟨1, 2⟩ : DUse)].length)) hf26 (fun w hw => ⟨(rd_own (i := 7) rfl) w hw, (rd_own (i := 0) rfl) w hw⟩) rfl ?_
    refine o_pure (p_pick_true (u := .bool (decide (((Lfu.run (⟨2, []⟩ : DUses) ([1, 1, 2, 3])).1) = (⟨2, [(⟨3, 1⟩ : DUse), (⟨1, 2⟩ : DUse)]⟩ : DUses)))) rfl rfl) rfl rfl rfl ?_
    exact o_sub (Sub.cons rfl (Sub.skip rfl (Sub.skip rfl (Sub.skip rfl (Sub.skip rfl (Sub.skip rfl (Sub.skip rfl (Sub.skip rfl (Sub.skip rfl (Sub.refl _)))))))))) (o_drop (List.Sublist.cons _ (List.Sublist.cons_cons _ (List.Sublist.cons_cons _ (List.Sublist.cons_cons _ (List.Sublist.cons_cons _ (List.Sublist.cons_cons _ (List.Sublist.cons_cons _ (List.Sublist.cons_cons _ (List.Sublist.cons_cons _ (List.Sublist.cons_cons _ (List.Sublist.slnil))))))))))) hk)
  · intro hb26 hk
    refine o_guard_no rfl 52 rfl rfl rfl rfl rfl ?_
    refine o_guard_no rfl 52 rfl rfl rfl rfl rfl ?_
    refine o_guard_no rfl 52 rfl rfl rfl rfl rfl ?_
    refine o_guard_no rfl 52 rfl rfl rfl rfl rfl ?_
    refine o_guard_no rfl 52 rfl rfl rfl rfl rfl ?_
    refine o_guard_no rfl 52 rfl rfl rfl rfl rfl ?_
    refine o_pure (p_pick_false (v := .bool false) rfl rfl) rfl rfl rfl ?_
    exact o_sub (Sub.cons rfl (Sub.skip rfl (Sub.skip rfl (Sub.skip rfl (Sub.skip rfl (Sub.skip rfl (Sub.skip rfl (Sub.skip rfl (Sub.skip rfl (Sub.refl _)))))))))) hk
  refine o_pure (p_move (v := .bool (((((Lfu.run (⟨2, []⟩ : DUses) ([1, 1, 2, 3])).2) == 1) && ((Lfu.runErr (⟨2, []⟩ : DUses) ([1, 1, 2, 3])) == 0)) && (decide (((Lfu.run (⟨2, []⟩ : DUses) ([1, 1, 2, 3])).1) = (⟨2, [(⟨3, 1⟩ : DUse), (⟨1, 2⟩ : DUse)]⟩ : DUses))))) rfl) rfl rfl rfl ?_
  refine o_and (p := 63) 3 ((Lfu.victim ((Lfu.run (⟨2, []⟩ : DUses) ([1, 1, 2, 3])).1)) == 3) ?_ ?_ ?_
  · intro hb30 hk
    simp only [Bool.and_eq_true, beq_iff_eq, decide_eq_true_eq] at hb30
    refine o_unguard 60 rfl rfl ?_
    refine o_pure (p_move (v := .int .i64 (Lfu.victim ((Lfu.run (⟨2, []⟩ : DUses) ([1, 1, 2, 3])).1))) rfl) rfl rfl rfl ?_
    refine o_unguard 60 rfl rfl ?_
    refine o_pure (p_eq (p := (Lfu.victim ((Lfu.run (⟨2, []⟩ : DUses) ([1, 1, 2, 3])).1))) (q := 3) rfl rfl) rfl rfl rfl ?_
    refine o_pure (p_pick_true (u := .bool ((Lfu.victim ((Lfu.run (⟨2, []⟩ : DUses) ([1, 1, 2, 3])).1)) == 3)) rfl rfl) rfl rfl rfl ?_
    exact o_sub (Sub.cons rfl (Sub.skip rfl (Sub.skip rfl (Sub.skip rfl (Sub.skip rfl (Sub.refl _)))))) hk
  · intro hb30 hk
    refine o_guard_no rfl 60 rfl rfl rfl rfl rfl ?_
    refine o_guard_no rfl 60 rfl rfl rfl rfl rfl ?_
    refine o_pure (p_pick_false (v := .bool false) rfl rfl) rfl rfl rfl ?_
    exact o_sub (Sub.cons rfl (Sub.skip rfl (Sub.skip rfl (Sub.skip rfl (Sub.skip rfl (Sub.refl _)))))) hk
  refine o_pure (p_move (v := .bool ((((((Lfu.run (⟨2, []⟩ : DUses) ([1, 1, 2, 3])).2) == 1) && ((Lfu.runErr (⟨2, []⟩ : DUses) ([1, 1, 2, 3])) == 0)) && (decide (((Lfu.run (⟨2, []⟩ : DUses) ([1, 1, 2, 3])).1) = (⟨2, [(⟨3, 1⟩ : DUse), (⟨1, 2⟩ : DUse)]⟩ : DUses)))) && ((Lfu.victim ((Lfu.run (⟨2, []⟩ : DUses) ([1, 1, 2, 3])).1)) == 3))) rfl) rfl rfl rfl ?_
  refine o_and (p := 67) 3 ((Lfu.victimErr ((Lfu.run (⟨2, []⟩ : DUses) ([1, 1, 2, 3])).1)) == 0) ?_ ?_ ?_
  · intro hb31 hk
    simp only [Bool.and_eq_true, beq_iff_eq, decide_eq_true_eq] at hb31
    refine o_unguard 64 rfl rfl ?_
    refine o_pure (p_move (v := .int .i64 (Lfu.victimErr ((Lfu.run (⟨2, []⟩ : DUses) ([1, 1, 2, 3])).1))) rfl) rfl rfl rfl ?_
    refine o_unguard 64 rfl rfl ?_
    refine o_pure (p_eq (p := (Lfu.victimErr ((Lfu.run (⟨2, []⟩ : DUses) ([1, 1, 2, 3])).1))) (q := 0) rfl rfl) rfl rfl rfl ?_
    refine o_pure (p_pick_true (u := .bool ((Lfu.victimErr ((Lfu.run (⟨2, []⟩ : DUses) ([1, 1, 2, 3])).1)) == 0)) rfl rfl) rfl rfl rfl ?_
    exact o_sub (Sub.cons rfl (Sub.skip rfl (Sub.skip rfl (Sub.skip rfl (Sub.skip rfl (Sub.refl _)))))) hk
  · intro hb31 hk
    refine o_guard_no rfl 64 rfl rfl rfl rfl rfl ?_
    refine o_guard_no rfl 64 rfl rfl rfl rfl rfl ?_
    refine o_pure (p_pick_false (v := .bool false) rfl rfl) rfl rfl rfl ?_
    exact o_sub (Sub.cons rfl (Sub.skip rfl (Sub.skip rfl (Sub.skip rfl (Sub.skip rfl (Sub.refl _)))))) hk
  refine o_pure (p_move (v := .bool (((((((Lfu.run (⟨2, []⟩ : DUses) ([1, 1, 2, 3])).2) == 1) && ((Lfu.runErr (⟨2, []⟩ : DUses) ([1, 1, 2, 3])) == 0)) && (decide (((Lfu.run (⟨2, []⟩ : DUses) ([1, 1, 2, 3])).1) = (⟨2, [(⟨3, 1⟩ : DUse), (⟨1, 2⟩ : DUse)]⟩ : DUses)))) && ((Lfu.victim ((Lfu.run (⟨2, []⟩ : DUses) ([1, 1, 2, 3])).1)) == 3)) && ((Lfu.victimErr ((Lfu.run (⟨2, []⟩ : DUses) ([1, 1, 2, 3])).1)) == 0))) rfl) rfl rfl rfl ?_
  refine o_and (p := 71) 3 (!((Lfu.access ((Lfu.run (⟨2, []⟩ : DUses) ([1, 1, 2, 3])).1) (4 : Int)).2.1)) ?_ ?_ ?_
  · intro hb32 hk
    simp only [Bool.and_eq_true, beq_iff_eq, decide_eq_true_eq] at hb32
    refine o_unguard 68 rfl rfl ?_
    refine o_pure (p_move (v := .bool ((Lfu.access ((Lfu.run (⟨2, []⟩ : DUses) ([1, 1, 2, 3])).1) (4 : Int)).2.1)) rfl) rfl rfl rfl ?_
    refine o_unguard 68 rfl rfl ?_
    refine o_pure (p_not (b := ((Lfu.access ((Lfu.run (⟨2, []⟩ : DUses) ([1, 1, 2, 3])).1) (4 : Int)).2.1)) rfl) rfl rfl rfl ?_
    refine o_pure (p_pick_true (u := .bool (!((Lfu.access ((Lfu.run (⟨2, []⟩ : DUses) ([1, 1, 2, 3])).1) (4 : Int)).2.1))) rfl rfl) rfl rfl rfl ?_
    exact o_sub (Sub.cons rfl (Sub.skip rfl (Sub.skip rfl (Sub.skip rfl (Sub.skip rfl (Sub.refl _)))))) hk
  · intro hb32 hk
    refine o_guard_no rfl 68 rfl rfl rfl rfl rfl ?_
    refine o_guard_no rfl 68 rfl rfl rfl rfl rfl ?_
    refine o_pure (p_pick_false (v := .bool false) rfl rfl) rfl rfl rfl ?_
    exact o_sub (Sub.cons rfl (Sub.skip rfl (Sub.skip rfl (Sub.skip rfl (Sub.skip rfl (Sub.refl _)))))) hk
  refine o_pure (p_move (v := .bool ((((((((Lfu.run (⟨2, []⟩ : DUses) ([1, 1, 2, 3])).2) == 1) && ((Lfu.runErr (⟨2, []⟩ : DUses) ([1, 1, 2, 3])) == 0)) && (decide (((Lfu.run (⟨2, []⟩ : DUses) ([1, 1, 2, 3])).1) = (⟨2, [(⟨3, 1⟩ : DUse), (⟨1, 2⟩ : DUse)]⟩ : DUses)))) && ((Lfu.victim ((Lfu.run (⟨2, []⟩ : DUses) ([1, 1, 2, 3])).1)) == 3)) && ((Lfu.victimErr ((Lfu.run (⟨2, []⟩ : DUses) ([1, 1, 2, 3])).1)) == 0)) && (!((Lfu.access ((Lfu.run (⟨2, []⟩ : DUses) ([1, 1, 2, 3])).1) (4 : Int)).2.1)))) rfl) rfl rfl rfl ?_
  refine o_and (p := 75) 3 (((Lfu.access ((Lfu.run (⟨2, []⟩ : DUses) ([1, 1, 2, 3])).1) (4 : Int)).2.2) == 3) ?_ ?_ ?_
  · intro hb33 hk
    simp only [Bool.and_eq_true, beq_iff_eq, decide_eq_true_eq, Bool.not_eq_true'] at hb33
    refine o_unguard 72 rfl rfl ?_
    refine o_pure (p_move (v := .int .i64 ((Lfu.access ((Lfu.run (⟨2, []⟩ : DUses) ([1, 1, 2, 3])).1) (4 : Int)).2.2)) rfl) rfl rfl rfl ?_
    refine o_unguard 72 rfl rfl ?_
    refine o_pure (p_eq (p := ((Lfu.access ((Lfu.run (⟨2, []⟩ : DUses) ([1, 1, 2, 3])).1) (4 : Int)).2.2)) (q := 3) rfl rfl) rfl rfl rfl ?_
    refine o_pure (p_pick_true (u := .bool (((Lfu.access ((Lfu.run (⟨2, []⟩ : DUses) ([1, 1, 2, 3])).1) (4 : Int)).2.2) == 3)) rfl rfl) rfl rfl rfl ?_
    exact o_sub (Sub.cons rfl (Sub.skip rfl (Sub.skip rfl (Sub.skip rfl (Sub.skip rfl (Sub.refl _)))))) hk
  · intro hb33 hk
    refine o_guard_no rfl 72 rfl rfl rfl rfl rfl ?_
    refine o_guard_no rfl 72 rfl rfl rfl rfl rfl ?_
    refine o_pure (p_pick_false (v := .bool false) rfl rfl) rfl rfl rfl ?_
    exact o_sub (Sub.cons rfl (Sub.skip rfl (Sub.skip rfl (Sub.skip rfl (Sub.skip rfl (Sub.refl _)))))) hk
  refine o_pure (p_move (v := .bool (((((((((Lfu.run (⟨2, []⟩ : DUses) ([1, 1, 2, 3])).2) == 1) && ((Lfu.runErr (⟨2, []⟩ : DUses) ([1, 1, 2, 3])) == 0)) && (decide (((Lfu.run (⟨2, []⟩ : DUses) ([1, 1, 2, 3])).1) = (⟨2, [(⟨3, 1⟩ : DUse), (⟨1, 2⟩ : DUse)]⟩ : DUses)))) && ((Lfu.victim ((Lfu.run (⟨2, []⟩ : DUses) ([1, 1, 2, 3])).1)) == 3)) && ((Lfu.victimErr ((Lfu.run (⟨2, []⟩ : DUses) ([1, 1, 2, 3])).1)) == 0)) && (!((Lfu.access ((Lfu.run (⟨2, []⟩ : DUses) ([1, 1, 2, 3])).1) (4 : Int)).2.1))) && (((Lfu.access ((Lfu.run (⟨2, []⟩ : DUses) ([1, 1, 2, 3])).1) (4 : Int)).2.2) == 3))) rfl) rfl rfl rfl ?_
  refine o_and (p := 79) 3 ((Lfu.accessErr ((Lfu.run (⟨2, []⟩ : DUses) ([1, 1, 2, 3])).1) (4 : Int)) == 0) ?_ ?_ ?_
  · intro hb34 hk
    simp only [Bool.and_eq_true, beq_iff_eq, decide_eq_true_eq, Bool.not_eq_true'] at hb34
    refine o_unguard 76 rfl rfl ?_
    refine o_pure (p_move (v := .int .i64 (Lfu.accessErr ((Lfu.run (⟨2, []⟩ : DUses) ([1, 1, 2, 3])).1) (4 : Int))) rfl) rfl rfl rfl ?_
    refine o_unguard 76 rfl rfl ?_
    refine o_pure (p_eq (p := (Lfu.accessErr ((Lfu.run (⟨2, []⟩ : DUses) ([1, 1, 2, 3])).1) (4 : Int))) (q := 0) rfl rfl) rfl rfl rfl ?_
    refine o_pure (p_pick_true (u := .bool ((Lfu.accessErr ((Lfu.run (⟨2, []⟩ : DUses) ([1, 1, 2, 3])).1) (4 : Int)) == 0)) rfl rfl) rfl rfl rfl ?_
    exact o_sub (Sub.cons rfl (Sub.skip rfl (Sub.skip rfl (Sub.skip rfl (Sub.skip rfl (Sub.refl _)))))) hk
  · intro hb34 hk
    refine o_guard_no rfl 76 rfl rfl rfl rfl rfl ?_
    refine o_guard_no rfl 76 rfl rfl rfl rfl rfl ?_
    refine o_pure (p_pick_false (v := .bool false) rfl rfl) rfl rfl rfl ?_
    exact o_sub (Sub.cons rfl (Sub.skip rfl (Sub.skip rfl (Sub.skip rfl (Sub.skip rfl (Sub.refl _)))))) hk
  refine o_pure (p_move (v := .bool ((((((((((Lfu.run (⟨2, []⟩ : DUses) ([1, 1, 2, 3])).2) == 1) && ((Lfu.runErr (⟨2, []⟩ : DUses) ([1, 1, 2, 3])) == 0)) && (decide (((Lfu.run (⟨2, []⟩ : DUses) ([1, 1, 2, 3])).1) = (⟨2, [(⟨3, 1⟩ : DUse), (⟨1, 2⟩ : DUse)]⟩ : DUses)))) && ((Lfu.victim ((Lfu.run (⟨2, []⟩ : DUses) ([1, 1, 2, 3])).1)) == 3)) && ((Lfu.victimErr ((Lfu.run (⟨2, []⟩ : DUses) ([1, 1, 2, 3])).1)) == 0)) && (!((Lfu.access ((Lfu.run (⟨2, []⟩ : DUses) ([1, 1, 2, 3])).1) (4 : Int)).2.1))) && (((Lfu.access ((Lfu.run (⟨2, []⟩ : DUses) ([1, 1, 2, 3])).1) (4 : Int)).2.2) == 3)) && ((Lfu.accessErr ((Lfu.run (⟨2, []⟩ : DUses) ([1, 1, 2, 3])).1) (4 : Int)) == 0))) rfl) rfl rfl rfl ?_
  refine o_and (p := 85) 5 (((((Lfu.access ((Lfu.run (⟨2, []⟩ : DUses) ([1, 1, 2, 3])).1) (4 : Int)).1).list).length : Int) == 2) ?_ ?_ ?_
  · intro hb35 hk
    simp only [Bool.and_eq_true, beq_iff_eq, decide_eq_true_eq, Bool.not_eq_true'] at hb35
    refine o_unguard 80 rfl rfl ?_
    refine o_pure (p_fieldAddr (B := B15) (j := 0) (j' := 1) rfl fo24_1 rfl) rfl rfl rfl ?_
    refine o_unguard 80 rfl rfl ?_
    refine o_pure (p_load (i := 3) (v := .slice a12 (((Lfu.access ((Lfu.run (⟨2, []⟩ : DUses) ([1, 1, 2, 3])).1) (4 : Int)).1).list).length c13) rfl rfl sh22 rfl) rfl rfl rfl ?_
    refine o_unguard 80 rfl rfl ?_
    refine o_pure (p_len_slice (len := (((Lfu.access ((Lfu.run (⟨2, []⟩ : DUses) ([1, 1, 2, 3])).1) (4 : Int)).1).list).length) rfl rfl Try.underlying22) rfl rfl rfl ?_
    refine o_unguard 80 rfl rfl ?_
    refine o_pure (p_eq (p := ((((Lfu.access ((Lfu.run (⟨2, []⟩ : DUses) ([1, 1, 2, 3])).1) (4 : Int)).1).list).length : Int)) (q := 2) rfl rfl) rfl rfl rfl ?_
    refine o_pure (p_pick_true (u := .bool (((((Lfu.access ((Lfu.run (⟨2, []⟩ : DUses) ([1, 1, 2, 3])).1) (4 : Int)).1).list).length : Int) == 2)) rfl rfl) rfl rfl rfl ?_
    exact o_sub (Sub.cons rfl (Sub.skip rfl (Sub.skip rfl (Sub.skip rfl (Sub.skip rfl (Sub.skip rfl (Sub.skip rfl (Sub.refl _)))))))) hk
  · intro hb35 hk
    refine o_guard_no rfl 80 rfl rfl rfl rfl rfl ?_
    refine o_guard_no rfl 80 rfl rfl rfl rfl rfl ?_
    refine o_guard_no rfl 80 rfl rfl rfl rfl rfl ?_
    refine o_guard_no rfl 80 rfl rfl rfl rfl rfl ?_
    refine o_pure (p_pick_false (v := .bool false) rfl rfl) rfl rfl rfl ?_
    exact o_sub (Sub.cons rfl (Sub.skip rfl (Sub.skip rfl (Sub.skip rfl (Sub.skip rfl (Sub.skip rfl (Sub.skip rfl (Sub.refl _)))))))) hk
  refine o_pure (p_move (v := .bool (((((((((((Lfu.run (⟨2, []⟩ : DUses) ([1, 1, 2, 3])).2) == 1) && ((Lfu.runErr (⟨2, []⟩ : DUses) ([1, 1, 2, 3])) == 0)) && (decide (((Lfu.run (⟨2, []⟩ : DUses) ([1, 1, 2, 3])).1) = (⟨2, [(⟨3, 1⟩ : DUse), (⟨1, 2⟩ : DUse)]⟩ : DUses)))) && ((Lfu.victim ((Lfu.run (⟨2, []⟩ : DUses) ([1, 1, 2, 3])).1)) == 3)) && ((Lfu.victimErr ((Lfu.run (⟨2, []⟩ : DUses) ([1, 1, 2, 3])).1)) == 0)) && (!((Lfu.access ((Lfu.run (⟨2, []⟩ : DUses) ([1, 1, 2, 3])).1) (4 : Int)).2.1))) && (((Lfu.access ((Lfu.run (⟨2, []⟩ : DUses) ([1, 1, 2, 3])).1) (4 : Int)).2.2) == 3)) && ((Lfu.accessErr ((Lfu.run (⟨2, []⟩ : DUses) ([1, 1, 2, 3])).1) (4 : Int)) == 0)) && (((((Lfu.access ((Lfu.run (⟨2, []⟩ : DUses) ([1, 1, 2, 3])).1) (4 : Int)).1).list).length : Int) == 2))) rfl) rfl rfl rfl ?_
  refine o_and (p := 93) 7 ((((((Lfu.access ((Lfu.run (⟨2, []⟩ : DUses) ([1, 1, 2, 3])).1) (4 : Int)).1).list)[0]).key == 4) && (((((Lfu.access ((Lfu.run (⟨2, []⟩ : DUses) ([1, 1, 2, 3])).1) (4 : Int)).1).list)[0]).count == 1)) ?_ ?_ ?_
  · intro hb36 hk
    simp only [Bool.and_eq_true, beq_iff_eq, decide_eq_true_eq, Bool.not_eq_true'] at hb36
    refine o_unguard 86 rfl rfl ?_
    refine o_pure (p_fieldAddr (B := B15) (j := 0) (j' := 1) rfl fo24_1 rfl) rfl rfl rfl ?_
    refine o_unguard 86 rfl rfl ?_
    refine o_pure (p_load (i := 3) (v := .slice a12 (((Lfu.access ((Lfu.run (⟨2, []⟩ : DUses) ([1, 1, 2, 3])).1) (4 : Int)).1).list).length c13) rfl rfl sh22 rfl) rfl rfl rfl ?_
    refine o_unguard 86 rfl rfl ?_
    refine o_pure (p_indexAddr (L := ((Lfu.access ((Lfu.run (⟨2, []⟩ : DUses) ([1, 1, 2, 3])).1) (4 : Int)).1).list) (T := tUse) (i := 0) rfl rfl (rd_own (i := 4) rfl) Try.underlying22 sz42 (by first | omega | decide +kernel) (by first | omega | decide +kernel)) rfl rfl rfl ?_
    refine o_unguard 86 rfl rfl ?_
    refine o_pure (p_loadEn (i := 0) (T := tUse) (L := ((Lfu.access ((Lfu.run (⟨2, []⟩ : DUses) ([1, 1, 2, 3])).1) (4 : Int)).1).list) (vs := [.int .i64 (((((Lfu.access ((Lfu.run (⟨2, []⟩ : DUses) ([1, 1, 2, 3])).1) (4 : Int)).1).list)[0]).key), .int .i64 (((((Lfu.access ((Lfu.run (⟨2, []⟩ : DUses) ([1, 1, 2, 3])).1) (4 : Int)).1).list)[0]).count)]) rfl (rd_own (i := 4) rfl) (by first | assumption | omega | decide +kernel) sh42 rfl) rfl rfl rfl ?_
    refine o_unguard 86 rfl rfl ?_
    refine o_pure (p_build (cells := [.int .i64 4, .int .i64 1]) fp42 ze42 rfl rfl) rfl rfl rfl ?_
    refine o_unguard 86 rfl rfl ?_
    refine o_pure (p_eqStruct (xs := [.int .i64 (((((Lfu.access ((Lfu.run (⟨2, []⟩ : DUses) ([1, 1, 2, 3])).1) (4 : Int)).1).list)[0]).key), .int .i64 (((((Lfu.access ((Lfu.run (⟨2, []⟩ : DUses) ([1, 1, 2, 3])).1) (4 : Int)).1).list)[0]).count)]) (ys := [.int .i64 4, .int .i64 1]) (r := ((((((Lfu.access ((Lfu.run (⟨2, []⟩ : DUses) ([1, 1, 2, 3])).1) (4 : Int)).1).list)[0]).key == 4) && (((((Lfu.access ((Lfu.run (⟨2, []⟩ : DUses) ([1, 1, 2, 3])).1) (4 : Int)).1).list)[0]).count == 1))) rfl rfl eqS42) rfl rfl rfl ?_
    refine o_pure (p_pick_true (u := .bool ((((((Lfu.access ((Lfu.run (⟨2, []⟩ : DUses) ([1, 1, 2, 3])).1) (4 : Int)).1).list)[0]).key == 4) && (((((Lfu.access ((Lfu.run (⟨2, []⟩ : DUses) ([1, 1, 2, 3])).1) (4 : Int)).1).list)[0]).count == 1))) rfl rfl) rfl rfl rfl ?_
    exact o_sub (Sub.cons rfl (Sub.skip rfl (Sub.skip rfl (Sub.skip rfl (Sub.skip rfl (Sub.skip rfl (Sub.skip rfl (Sub.skip rfl (Sub.skip rfl (Sub.refl _)))))))))) hk
  · intro hb36 hk
    refine o_guard_no rfl 86 rfl rfl rfl rfl rfl ?_
    refine o_guard_no rfl 86 rfl rfl rfl rfl rfl ?_
    refine o_guard_no rfl 86 rfl rfl rfl rfl rfl ?_
    refine o_guard_no rfl 86 rfl rfl rfl rfl rfl ?_
    refine o_guard_no rfl 86 rfl rfl rfl rfl rfl ?_
    refine o_guard_no rfl 86 rfl rfl rfl rfl rfl ?_
    refine o_pure (p_pick_false (v := .bool false) rfl rfl) rfl rfl rfl ?_
    exact o_sub (Sub.cons rfl (Sub.skip rfl (Sub.skip rfl (Sub.skip rfl (Sub.skip rfl (Sub.skip rfl (Sub.skip rfl (Sub.skip rfl (Sub.skip rfl (Sub.refl _)))))))))) hk
  refine o_pure (p_move (v := .bool ((((((((((((Lfu.run (⟨2, []⟩ : DUses) ([1, 1, 2, 3])).2) == 1) && ((Lfu.runErr (⟨2, []⟩ : DUses) ([1, 1, 2, 3])) == 0)) && (decide (((Lfu.run (⟨2, []⟩ : DUses) ([1, 1, 2, 3])).1) = (⟨2, [(⟨3, 1⟩ : DUse), (⟨1, 2⟩ : DUse)]⟩ : DUses)))) && ((Lfu.victim ((Lfu.run (⟨2, []⟩ : DUses) ([1, 1, 2, 3])).1)) == 3)) && ((Lfu.victimErr ((Lfu.run (⟨2, []⟩ : DUses) ([1, 1, 2, 3])).1)) == 0)) && (!((Lfu.access ((Lfu.run (⟨2, []⟩ : DUses) ([1, 1, 2, 3])).1) (4 : Int)).2.1))) && (((Lfu.access ((Lfu.run (⟨2, []⟩ : DUses) ([1, 1, 2, 3])).1) (4 : Int)).2.2) == 3)) && ((Lfu.accessErr ((Lfu.run (⟨2, []⟩ : DUses) ([1, 1, 2, 3])).1) (4 : Int)) == 0)) && (((((Lfu.access ((Lfu.run (⟨2, []⟩ : DUses) ([1, 1, 2, 3])).1) (4 : Int)).1).list).length : Int) == 2)) && ((((((Lfu.access ((Lfu.run (⟨2, []⟩ : DUses) ([1, 1, 2, 3])).1) (4 : Int)).1).list)[0]).key == 4) && (((((Lfu.access ((Lfu.run (⟨2, []⟩ : DUses) ([1, 1, 2, 3])).1) (4 : Int)).1).list)[0]).count == 1)))) rfl) rfl rfl rfl ?_
  refine o_and (p := 101) 7 (decide ((Lfu.age (⟨2, [(⟨1, 5⟩ : DUse), (⟨2, 1⟩ : DUse)]⟩ : DUses)) = (⟨2, [(⟨1, 2⟩ : DUse), (⟨2, 1⟩ : DUse)]⟩ : DUses))) ?_ ?_ ?_
  · intro hb37 hk
    simp only [Bool.and_eq_true, beq_iff_eq, decide_eq_true_eq, Bool.not_eq_true'] at hb37
    refine o_unguard 94 rfl rfl ?_
    refine o_pure (p_load_agg (i := 0) (vs := [.int .i64 ((Lfu.age (⟨2, [(⟨1, 5⟩ : DUse), (⟨2, 1⟩ : DUse)]⟩ : DUses)).room), .slice a21 ((Lfu.age (⟨2, [(⟨1, 5⟩ : DUse), (⟨2, 1⟩ : DUse)]⟩ : DUses)).list).length c22]) rfl rfl sh24 rfl rfl) rfl rfl rfl ?_
    refine o_unguard 94 rfl rfl ?_
    refine o_pure (p_build (cells := [.int .i64 1, .int .i64 2]) fp42 ze42 rfl rfl) rfl rfl rfl ?_
    refine o_unguard 94 rfl rfl ?_
    refine o_pure (p_build (cells := [.int .i64 2, .int .i64 1]) fp42 ze42 rfl rfl) rfl rfl rfl ?_
    refine o_unguard 94 rfl rfl ?_
    refine o_buildSlice (m := 2) (T := tUse) (L := [(⟨1, 2⟩ : DUse), (⟨2, 1⟩ : DUse)]) (vs := [.agg #[.int .i64 1, .int .i64 2], .agg #[.int .i64 2, .int .i64 1]]) rfl rfl rfl rfl Try.underlying22 sz42 (by decide) ze42 rfl (by decide) rfl (fun S38 a39 => ?_)
    refine o_unguard 94 rfl rfl ?_
    refine o_pure (p_build (cells := [.int .i64 2, .slice a39 ([(⟨1, 2⟩ : DUse), (⟨2, 1⟩ : DUse)]).length ([(⟨1, 2⟩ : DUse), (⟨2, 1⟩ : DUse)].length)]) fp24 ze24 rfl rfl) rfl rfl rfl ?_
    refine o_unguard 94 rfl rfl ?_
    refine o_call0 (v := .bool (decide ((Lfu.age (⟨2, [(⟨1, 5⟩ : DUse), (⟨2, 1⟩ : DUse)]⟩ : DUses)) = (⟨2, [(⟨1, 2⟩ : DUse), (⟨2, 1⟩ : DUse)]⟩ : DUses)))) rfl (sameUses_ok (Lfu.age (⟨2, [(⟨1, 5⟩ : DUse), (⟨2, 1⟩ : DUse)]⟩ : DUses)) a21 c22 (⟨2, [(⟨1, 2⟩ : DUse), (⟨2, 1⟩ : DUse)]⟩ : DUses) a39 ([(⟨1, 2⟩ : DUse), (⟨2, 1⟩ : DUse)].length)) hf26 (fun w hw => ⟨(rd_own (i := 2) rfl) w hw, (rd_own (i := 0) rfl) w hw⟩) rfl ?_
    refine o_pure (p_pick_true (u := .bool (decide ((Lfu.age (⟨2, [(⟨1, 5⟩ : DUse), (⟨2, 1⟩ : DUse)]⟩ : DUses)) = (⟨2, [(⟨1, 2⟩ : DUse), (⟨2, 1⟩ : DUse)]⟩ : DUses)))) rfl rfl) rfl rfl rfl ?_
    exact o_sub (Sub.cons rfl (Sub.skip rfl (Sub.skip rfl (Sub.skip rfl (Sub.skip rfl (Sub.skip rfl (Sub.skip rfl (Sub.skip rfl (Sub.skip rfl (Sub.refl _)))))))))) (o_drop (List.Sublist.cons _ (List.Sublist.cons_cons _ (List.Sublist.cons_cons _ (List.Sublist.cons_cons _ (List.Sublist.cons_cons _ (List.Sublist.cons_cons _ (List.Sublist.cons_cons _ (List.Sublist.cons_cons _ (List.Sublist.cons_cons _ (List.Sublist.cons_cons _ (List.Sublist.slnil))))))))))) hk)
  · intro hb37 hk
    refine o_guard_no rfl 94 rfl rfl rfl rfl rfl ?_
    refine o_guard_no rfl 94 rfl rfl rfl rfl rfl ?_
    refine o_guard_no rfl 94 rfl rfl rfl rfl rfl ?_
    refine o_guard_no rfl 94 rfl rfl rfl rfl rfl ?_
    refine o_guard_no rfl 94 rfl rfl rfl rfl rfl ?_
    refine o_guard_no rfl 94 rfl rfl rfl rfl rfl ?_
    refine o_pure (p_pick_false (v := .bool false) rfl rfl) rfl rfl rfl ?_
    exact o_sub (Sub.cons rfl (Sub.skip rfl (Sub.skip rfl (Sub.skip rfl (Sub.skip rfl (Sub.skip rfl (Sub.skip rfl (Sub.skip rfl (Sub.skip rfl (Sub.refl _)))))))))) hk
  refine o_pure (p_move (v := .bool (((((((((((((Lfu.run (⟨2, []⟩ : DUses) ([1, 1, 2, 3])).2) == 1) && ((Lfu.runErr (⟨2, []⟩ : DUses) ([1, 1, 2, 3])) == 0)) && (decide (((Lfu.run (⟨2, []⟩ : DUses) ([1, 1, 2, 3])).1) = (⟨2, [(⟨3, 1⟩ : DUse), (⟨1, 2⟩ : DUse)]⟩ : DUses)))) && ((Lfu.victim ((Lfu.run (⟨2, []⟩ : DUses) ([1, 1, 2, 3])).1)) == 3)) && ((Lfu.victimErr ((Lfu.run (⟨2, []⟩ : DUses) ([1, 1, 2, 3])).1)) == 0)) && (!((Lfu.access ((Lfu.run (⟨2, []⟩ : DUses) ([1, 1, 2, 3])).1) (4 : Int)).2.1))) && (((Lfu.access ((Lfu.run (⟨2, []⟩ : DUses) ([1, 1, 2, 3])).1) (4 : Int)).2.2) == 3)) && ((Lfu.accessErr ((Lfu.run (⟨2, []⟩ : DUses) ([1, 1, 2, 3])).1) (4 : Int)) == 0)) && (((((Lfu.access ((Lfu.run (⟨2, []⟩ : DUses) ([1, 1, 2, 3])).1) (4 : Int)).1).list).length : Int) == 2)) && ((((((Lfu.access ((Lfu.run (⟨2, []⟩ : DUses) ([1, 1, 2, 3])).1) (4 : Int)).1).list)[0]).key == 4) && (((((Lfu.access ((Lfu.run (⟨2, []⟩ : DUses) ([1, 1, 2, 3])).1) (4 : Int)).1).list)[0]).count == 1))) && (decide ((Lfu.age (⟨2, [(⟨1, 5⟩ : DUse), (⟨2, 1⟩ : DUse)]⟩ : DUses)) = (⟨2, [(⟨1, 2⟩ : DUse), (⟨2, 1⟩ : DUse)]⟩ : DUses))))) rfl) rfl rfl rfl ?_
  refine o_and (p := 105) 3 ((Lfu.check (⟨2, [(⟨1, 5⟩ : DUse), (⟨2, 1⟩ : DUse)]⟩ : DUses)) == 0) ?_ ?_ ?_
  · intro hb41 hk
    simp only [Bool.and_eq_true, beq_iff_eq, decide_eq_true_eq, Bool.not_eq_true'] at hb41
    refine o_unguard 102 rfl rfl ?_
    refine o_pure (p_move (v := .int .i64 (Lfu.check (⟨2, [(⟨1, 5⟩ : DUse), (⟨2, 1⟩ : DUse)]⟩ : DUses))) rfl) rfl rfl rfl ?_
    refine o_unguard 102 rfl rfl ?_
    refine o_pure (p_eq (p := (Lfu.check (⟨2, [(⟨1, 5⟩ : DUse), (⟨2, 1⟩ : DUse)]⟩ : DUses))) (q := 0) rfl rfl) rfl rfl rfl ?_
    refine o_pure (p_pick_true (u := .bool ((Lfu.check (⟨2, [(⟨1, 5⟩ : DUse), (⟨2, 1⟩ : DUse)]⟩ : DUses)) == 0)) rfl rfl) rfl rfl rfl ?_
    exact o_sub (Sub.cons rfl (Sub.skip rfl (Sub.skip rfl (Sub.skip rfl (Sub.skip rfl (Sub.refl _)))))) hk
  · intro hb41 hk
    refine o_guard_no rfl 102 rfl rfl rfl rfl rfl ?_
    refine o_guard_no rfl 102 rfl rfl rfl rfl rfl ?_
    refine o_pure (p_pick_false (v := .bool false) rfl rfl) rfl rfl rfl ?_
    exact o_sub (Sub.cons rfl (Sub.skip rfl (Sub.skip rfl (Sub.skip rfl (Sub.skip rfl (Sub.refl _)))))) hk
  refine o_pure (p_move (v := .bool ((((((((((((((Lfu.run (⟨2, []⟩ : DUses) ([1, 1, 2, 3])).2) == 1) && ((Lfu.runErr (⟨2, []⟩ : DUses) ([1, 1, 2, 3])) == 0)) && (decide (((Lfu.run (⟨2, []⟩ : DUses) ([1, 1, 2, 3])).1) = (⟨2, [(⟨3, 1⟩ : DUse), (⟨1, 2⟩ : DUse)]⟩ : DUses)))) && ((Lfu.victim ((Lfu.run (⟨2, []⟩ : DUses) ([1, 1, 2, 3])).1)) == 3)) && ((Lfu.victimErr ((Lfu.run (⟨2, []⟩ : DUses) ([1, 1, 2, 3])).1)) == 0)) && (!((Lfu.access ((Lfu.run (⟨2, []⟩ : DUses) ([1, 1, 2, 3])).1) (4 : Int)).2.1))) && (((Lfu.access ((Lfu.run (⟨2, []⟩ : DUses) ([1, 1, 2, 3])).1) (4 : Int)).2.2) == 3)) && ((Lfu.accessErr ((Lfu.run (⟨2, []⟩ : DUses) ([1, 1, 2, 3])).1) (4 : Int)) == 0)) && (((((Lfu.access ((Lfu.run (⟨2, []⟩ : DUses) ([1, 1, 2, 3])).1) (4 : Int)).1).list).length : Int) == 2)) && ((((((Lfu.access ((Lfu.run (⟨2, []⟩ : DUses) ([1, 1, 2, 3])).1) (4 : Int)).1).list)[0]).key == 4) && (((((Lfu.access ((Lfu.run (⟨2, []⟩ : DUses) ([1, 1, 2, 3])).1) (4 : Int)).1).list)[0]).count == 1))) && (decide ((Lfu.age (⟨2, [(⟨1, 5⟩ : DUse), (⟨2, 1⟩ : DUse)]⟩ : DUses)) = (⟨2, [(⟨1, 2⟩ : DUse), (⟨2, 1⟩ : DUse)]⟩ : DUses)))) && ((Lfu.check (⟨2, [(⟨1, 5⟩ : DUse), (⟨2, 1⟩ : DUse)]⟩ : DUses)) == 0))) rfl) rfl rfl rfl ?_
  refine o_and (p := 109) 3 ((Lfu.victimErr (⟨1, []⟩ : DUses)) == 5) ?_ ?_ ?_
  · intro hb42 hk
    simp only [Bool.and_eq_true, beq_iff_eq, decide_eq_true_eq, Bool.not_eq_true'] at hb42
    refine o_unguard 106 rfl rfl ?_
    refine o_pure (p_move (v := .int .i64 (Lfu.victimErr (⟨1, []⟩ : DUses))) rfl) rfl rfl rfl ?_
    refine o_unguard 106 rfl rfl ?_
    refine o_pure (p_eq (p := (Lfu.victimErr (⟨1, []⟩ : DUses))) (q := 5) rfl rfl) rfl rfl rfl ?_
    refine o_pure (p_pick_true (u := .bool ((Lfu.victimErr (⟨1, []⟩ : DUses)) == 5)) rfl rfl) rfl rfl rfl ?_
    exact o_sub (Sub.cons rfl (Sub.skip rfl (Sub.skip rfl (Sub.skip rfl (Sub.skip rfl (Sub.refl _)))))) hk
  · intro hb42 hk
    refine o_guard_no rfl 106 rfl rfl rfl rfl rfl ?_
    refine o_guard_no rfl 106 rfl rfl rfl rfl rfl ?_
    refine o_pure (p_pick_false (v := .bool false) rfl rfl) rfl rfl rfl ?_
    exact o_sub (Sub.cons rfl (Sub.skip rfl (Sub.skip rfl (Sub.skip rfl (Sub.skip rfl (Sub.refl _)))))) hk
  refine o_pure (p_move (v := .bool (((((((((((((((Lfu.run (⟨2, []⟩ : DUses) ([1, 1, 2, 3])).2) == 1) && ((Lfu.runErr (⟨2, []⟩ : DUses) ([1, 1, 2, 3])) == 0)) && (decide (((Lfu.run (⟨2, []⟩ : DUses) ([1, 1, 2, 3])).1) = (⟨2, [(⟨3, 1⟩ : DUse), (⟨1, 2⟩ : DUse)]⟩ : DUses)))) && ((Lfu.victim ((Lfu.run (⟨2, []⟩ : DUses) ([1, 1, 2, 3])).1)) == 3)) && ((Lfu.victimErr ((Lfu.run (⟨2, []⟩ : DUses) ([1, 1, 2, 3])).1)) == 0)) && (!((Lfu.access ((Lfu.run (⟨2, []⟩ : DUses) ([1, 1, 2, 3])).1) (4 : Int)).2.1))) && (((Lfu.access ((Lfu.run (⟨2, []⟩ : DUses) ([1, 1, 2, 3])).1) (4 : Int)).2.2) == 3)) && ((Lfu.accessErr ((Lfu.run (⟨2, []⟩ : DUses) ([1, 1, 2, 3])).1) (4 : Int)) == 0)) && (((((Lfu.access ((Lfu.run (⟨2, []⟩ : DUses) ([1, 1, 2, 3])).1) (4 : Int)).1).list).length : Int) == 2)) && ((((((Lfu.access ((Lfu.run (⟨2, []⟩ : DUses) ([1, 1, 2, 3])).1) (4 : Int)).1).list)[0]).key == 4) && (((((Lfu.access ((Lfu.run (⟨2, []⟩ : DUses) ([1, 1, 2, 3])).1) (4 : Int)).1).list)[0]).count == 1))) && (decide ((Lfu.age (⟨2, [(⟨1, 5⟩ : DUse), (⟨2, 1⟩ : DUse)]⟩ : DUses)) = (⟨2, [(⟨1, 2⟩ : DUse), (⟨2, 1⟩ : DUse)]⟩ : DUses)))) && ((Lfu.check (⟨2, [(⟨1, 5⟩ : DUse), (⟨2, 1⟩ : DUse)]⟩ : DUses)) == 0)) && ((Lfu.victimErr (⟨1, []⟩ : DUses)) == 5))) rfl) rfl rfl rfl ?_
  refine o_and (p := 114) 4 ((Lfu.check (⟨0, []⟩ : DUses)) == 3) ?_ ?_ ?_
  · intro hb43 hk
    simp only [Bool.and_eq_true, beq_iff_eq, decide_eq_true_eq, Bool.not_eq_true'] at hb43
    refine o_unguard 110 rfl rfl ?_
    refine o_pure (p_build (cells := [.int .i64 0, .slice none 0 0]) fp24 ze24 rfl rfl) rfl rfl rfl ?_
    refine o_unguard 110 rfl rfl ?_
    refine o_call0 (v := .int .i64 (Lfu.check (⟨0, []⟩ : DUses))) rfl (fcheck_ok (⟨0, []⟩ : DUses) none 0) hf25 (fun w hw => rd_nil w hw) rfl ?_
    refine o_unguard 110 rfl rfl ?_
    refine o_pure (p_eq (p := (Lfu.check (⟨0, []⟩ : DUses))) (q := 3) rfl rfl) rfl rfl rfl ?_
    refine o_pure (p_pick_true (u := .bool ((Lfu.check (⟨0, []⟩ : DUses)) == 3)) rfl rfl) rfl rfl rfl ?_
    exact o_sub (Sub.cons rfl (Sub.skip rfl (Sub.skip rfl (Sub.skip rfl (Sub.skip rfl (Sub.skip rfl (Sub.refl _))))))) hk
  · intro hb43 hk
    refine o_guard_no rfl 110 rfl rfl rfl rfl rfl ?_
    refine o_guard_no rfl 110 rfl rfl rfl rfl rfl ?_
    refine o_guard_no rfl 110 rfl rfl rfl rfl rfl ?_
    refine o_pure (p_pick_false (v := .bool false) rfl rfl) rfl rfl rfl ?_
    exact o_sub (Sub.cons rfl (Sub.skip rfl (Sub.skip rfl (Sub.skip rfl (Sub.skip rfl (Sub.skip rfl (Sub.refl _))))))) hk
  refine o_pure (p_assign (v := .bool ((((((((((((((((Lfu.run (⟨2, []⟩ : DUses) ([1, 1, 2, 3])).2) == 1) && ((Lfu.runErr (⟨2, []⟩ : DUses) ([1, 1, 2, 3])) == 0)) && (decide (((Lfu.run (⟨2, []⟩ : DUses) ([1, 1, 2, 3])).1) = (⟨2, [(⟨3, 1⟩ : DUse), (⟨1, 2⟩ : DUse)]⟩ : DUses)))) && ((Lfu.victim ((Lfu.run (⟨2, []⟩ : DUses) ([1, 1, 2, 3])).1)) == 3)) && ((Lfu.victimErr ((Lfu.run (⟨2, []⟩ : DUses) ([1, 1, 2, 3])).1)) == 0)) && (!((Lfu.access ((Lfu.run (⟨2, []⟩ : DUses) ([1, 1, 2, 3])).1) (4 : Int)).2.1))) && (((Lfu.access ((Lfu.run (⟨2, []⟩ : DUses) ([1, 1, 2, 3])).1) (4 : Int)).2.2) == 3)) && ((Lfu.accessErr ((Lfu.run (⟨2, []⟩ : DUses) ([1, 1, 2, 3])).1) (4 : Int)) == 0)) && (((((Lfu.access ((Lfu.run (⟨2, []⟩ : DUses) ([1, 1, 2, 3])).1) (4 : Int)).1).list).length : Int) == 2)) && ((((((Lfu.access ((Lfu.run (⟨2, []⟩ : DUses) ([1, 1, 2, 3])).1) (4 : Int)).1).list)[0]).key == 4) && (((((Lfu.access ((Lfu.run (⟨2, []⟩ : DUses) ([1, 1, 2, 3])).1) (4 : Int)).1).list)[0]).count == 1))) && (decide ((Lfu.age (⟨2, [(⟨1, 5⟩ : DUse), (⟨2, 1⟩ : DUse)]⟩ : DUses)) = (⟨2, [(⟨1, 2⟩ : DUse), (⟨2, 1⟩ : DUse)]⟩ : DUses)))) && ((Lfu.check (⟨2, [(⟨1, 5⟩ : DUse), (⟨2, 1⟩ : DUse)]⟩ : DUses)) == 0)) && ((Lfu.victimErr (⟨1, []⟩ : DUses)) == 5)) && ((Lfu.check (⟨0, []⟩ : DUses)) == 3))) rfl) rfl rfl rfl ?_
  refine o_nil ?_
  refine q_then ?_
  refine c_ret ?_
  have hr0 : (((((((((((((((((Lfu.run (⟨2, []⟩ : DUses) ([1, 1, 2, 3])).2) == 1) && ((Lfu.runErr (⟨2, []⟩ : DUses) ([1, 1, 2, 3])) == 0)) && (decide (((Lfu.run (⟨2, []⟩ : DUses) ([1, 1, 2, 3])).1) = (⟨2, [(⟨3, 1⟩ : DUse), (⟨1, 2⟩ : DUse)]⟩ : DUses)))) && ((Lfu.victim ((Lfu.run (⟨2, []⟩ : DUses) ([1, 1, 2, 3])).1)) == 3)) && ((Lfu.victimErr ((Lfu.run (⟨2, []⟩ : DUses) ([1, 1, 2, 3])).1)) == 0)) && (!((Lfu.access ((Lfu.run (⟨2, []⟩ : DUses) ([1, 1, 2, 3])).1) (4 : Int)).2.1))) && (((Lfu.access ((Lfu.run (⟨2, []⟩ : DUses) ([1, 1, 2, 3])).1) (4 : Int)).2.2) == 3)) && ((Lfu.accessErr ((Lfu.run (⟨2, []⟩ : DUses) ([1, 1, 2, 3])).1) (4 : Int)) == 0)) && (((((Lfu.access ((Lfu.run (⟨2, []⟩ : DUses) ([1, 1, 2, 3])).1) (4 : Int)).1).list).length : Int) == 2)) && ((((((Lfu.access ((Lfu.run (⟨2, []⟩ : DUses) ([1, 1, 2, 3])).1) (4 : Int)).1).list)[0]).key == 4) && (((((Lfu.access ((Lfu.run (⟨2, []⟩ : DUses) ([1, 1, 2, 3])).1) (4 : Int)).1).list)[0]).count == 1))) && (decide ((Lfu.age (⟨2, [(⟨1, 5⟩ : DUse), (⟨2, 1⟩ : DUse)]⟩ : DUses)) = (⟨2, [(⟨1, 2⟩ : DUse), (⟨2, 1⟩ : DUse)]⟩ : DUses)))) && ((Lfu.check (⟨2, [(⟨1, 5⟩ : DUse), (⟨2, 1⟩ : DUse)]⟩ : DUses)) == 0)) && ((Lfu.victimErr (⟨1, []⟩ : DUses)) == 5)) && ((Lfu.check (⟨0, []⟩ : DUses)) == 3)) : Bool) = true := by
    first | rfl | decide +kernel
  refine q_end0 (v := .bool ((((((((((((((((Lfu.run (⟨2, []⟩ : DUses) ([1, 1, 2, 3])).2) == 1) && ((Lfu.runErr (⟨2, []⟩ : DUses) ([1, 1, 2, 3])) == 0)) && (decide (((Lfu.run (⟨2, []⟩ : DUses) ([1, 1, 2, 3])).1) = (⟨2, [(⟨3, 1⟩ : DUse), (⟨1, 2⟩ : DUse)]⟩ : DUses)))) && ((Lfu.victim ((Lfu.run (⟨2, []⟩ : DUses) ([1, 1, 2, 3])).1)) == 3)) && ((Lfu.victimErr ((Lfu.run (⟨2, []⟩ : DUses) ([1, 1, 2, 3])).1)) == 0)) && (!((Lfu.access ((Lfu.run (⟨2, []⟩ : DUses) ([1, 1, 2, 3])).1) (4 : Int)).2.1))) && (((Lfu.access ((Lfu.run (⟨2, []⟩ : DUses) ([1, 1, 2, 3])).1) (4 : Int)).2.2) == 3)) && ((Lfu.accessErr ((Lfu.run (⟨2, []⟩ : DUses) ([1, 1, 2, 3])).1) (4 : Int)) == 0)) && (((((Lfu.access ((Lfu.run (⟨2, []⟩ : DUses) ([1, 1, 2, 3])).1) (4 : Int)).1).list).length : Int) == 2)) && ((((((Lfu.access ((Lfu.run (⟨2, []⟩ : DUses) ([1, 1, 2, 3])).1) (4 : Int)).1).list)[0]).key == 4) && (((((Lfu.access ((Lfu.run (⟨2, []⟩ : DUses) ([1, 1, 2, 3])).1) (4 : Int)).1).list)[0]).count == 1))) && (decide ((Lfu.age (⟨2, [(⟨1, 5⟩ : DUse), (⟨2, 1⟩ : DUse)]⟩ : DUses)) = (⟨2, [(⟨1, 2⟩ : DUse), (⟨2, 1⟩ : DUse)]⟩ : DUses)))) && ((Lfu.check (⟨2, [(⟨1, 5⟩ : DUse), (⟨2, 1⟩ : DUse)]⟩ : DUses)) == 0)) && ((Lfu.victimErr (⟨1, []⟩ : DUses)) == 5)) && ((Lfu.check (⟨0, []⟩ : DUses)) == 3))) (rt1 rfl (r_tmp rfl)) (i := 8) rfl ?_
  exact (by have hcc := congrArg (fun (y0 : Bool) => (.bool y0 : Value)) hr0; exact hcc)
end Go.Proofs.Ytagbihjkdejdjaa
