/- The walks, printed by a program from the translation and a specification. -/
import Derived.Test.YtgjdmnljnimamaaRgF
import Derived.Test.YtgjdmnljnimamaaRgLaw3
import Derived.Test.YtgjdmnljnimamaaRgW4
import Derived.Test.YtgjdmnljnimamaaRgW5
import Derived.Test.YtgjdmnljnimamaaRgW6
import Derived.Test.YtgjdmnljnimamaaRgW2
namespace Go.Proofs.Ytgjdmnljnimamaa
open Go.Sx Go.RowKit
set_option maxHeartbeats 8000000 in
set_option maxRecDepth 100000 in
theorem ringBegun_ok  : Fn0 Try.prog 23 [] (fun _ => True) (.bool true) := by
  refine fn0 (nt := 92) (F0 := []) Try.func23 rfl Try.ntmps23 rfl rfl (fun w0 hpre => ?_)
  refine c_seq ?_
  refine c_region ?_
  refine o_pure (p_assign (v := .bool false) rfl) rfl rfl rfl ?_
  refine o_nil ?_
  refine q_then ?_
  refine c_seq ?_
  refine c_region ?_
  refine o_pure (p_build (cells := [.int .i64 100, .int .i64 1]) fp35 ze35 rfl rfl) rfl rfl rfl ?_
  refine o_buildSlice (m := 1) (T := tPoint) (L := [(⟨100, 1⟩ : DPoint)]) (vs := [.agg #[.int .i64 100, .int .i64 1]]) rfl rfl rfl rfl Try.underlying22 sz35 (by decide) ze35 rfl (by decide) rfl (fun S1 a2 => ?_)
  refine o_buildSlice (m := 2) (T := tInt) (L := [300, 50]) (vs := [.int .i64 300, .int .i64 50]) rfl rfl rfl rfl Try.underlying23 sz3 (by decide) ze3 rfl (by decide) rfl (fun S4 a5 => ?_)
  refine o_callM rfl (radd_ok ([(⟨100, 1⟩ : DPoint)]) a2 ([(⟨100, 1⟩ : DPoint)].length) (2 : Int) ([300, 50]) a5 ([300, 50].length)) hf16 (fun w hw => ⟨(rd_own (i := 1) rfl) w hw, (rd_own (i := 0) rfl) w hw⟩) rfl (fun _ _ _ _ ha hA => SlO.agree ha hA) ?_
  rintro ⟨a9, c10⟩ S7
  refine o_know (fun w hw => own_len (i := 0) (T := tPoint) hw rfl) (fun hlr11 => ?_)
  refine o_pure (p_move (v := .tuple #[.slice a9 (Rg.add ([(⟨100, 1⟩ : DPoint)]) (2 : Int) ([300, 50])).length c10, .int .i64 (Rg.addErr ([(⟨100, 1⟩ : DPoint)]) (2 : Int) ([300, 50]))]) rfl) rfl rfl rfl ?_
  refine o_pure (p_extract (vs := [.slice a9 (Rg.add ([(⟨100, 1⟩ : DPoint)]) (2 : Int) ([300, 50])).length c10, .int .i64 (Rg.addErr ([(⟨100, 1⟩ : DPoint)]) (2 : Int) ([300, 50]))]) (v := .slice a9 (Rg.add ([(⟨100, 1⟩ : DPoint)]) (2 : Int) ([300, 50])).length c10) rfl rfl) rfl rfl rfl ?_
  refine o_pure (p_extract (vs := [.slice a9 (Rg.add ([(⟨100, 1⟩ : DPoint)]) (2 : Int) ([300, 50])).length c10, .int .i64 (Rg.addErr ([(⟨100, 1⟩ : DPoint)]) (2 : Int) ([300, 50]))]) (v := .int .i64 (Rg.addErr ([(⟨100, 1⟩ : DPoint)]) (2 : Int) ([300, 50]))) rfl rfl) rfl rfl rfl ?_
  refine o_pure (p_assign (v := .slice a9 (Rg.add ([(⟨100, 1⟩ : DPoint)]) (2 : Int) ([300, 50])).length c10) rfl) rfl rfl rfl ?_
  refine o_pure (p_assign (v := .int .i64 (Rg.addErr ([(⟨100, 1⟩ : DPoint)]) (2 : Int) ([300, 50]))) rfl) rfl rfl rfl ?_
  refine o_nil ?_
  refine q_then ?_
  refine c_seq ?_
  refine c_region ?_
  refine o_pure (p_move (v := .slice a9 (Rg.add ([(⟨100, 1⟩ : DPoint)]) (2 : Int) ([300, 50])).length c10) rfl) rfl rfl rfl ?_
  refine o_call0 (v := .tuple #[.int .i64 (Rg.owner (Rg.add ([(⟨100, 1⟩ : DPoint)]) (2 : Int) ([300, 50])) (51 : Int)), .int .i64 (Rg.ownErr (Rg.add ([(⟨100, 1⟩ : DPoint)]) (2 : Int) ([300, 50])) (51 : Int))]) rfl (rowner_ok (Rg.add ([(⟨100, 1⟩ : DPoint)]) (2 : Int) ([300, 50])) a9 c10 (51 : Int)) hf15 (fun w hw => (rd_own (i := 0) rfl) w hw) rfl ?_
  refine o_pure (p_move (v := .tuple #[.int .i64 (Rg.owner (Rg.add ([(⟨100, 1⟩ : DPoint)]) (2 : Int) ([300, 50])) (51 : Int)), .int .i64 (Rg.ownErr (Rg.add ([(⟨100, 1⟩ : DPoint)]) (2 : Int) ([300, 50])) (51 : Int))]) rfl) rfl rfl rfl ?_
  refine o_pure (p_extract (vs := [.int .i64 (Rg.owner (Rg.add ([(⟨100, 1⟩ : DPoint)]) (2 : Int) ([300, 50])) (51 : Int)), .int .i64 (Rg.ownErr (Rg.add ([(⟨100, 1⟩ : DPoint)]) (2 : Int) ([300, 50])) (51 : Int))]) (v := .int .i64 (Rg.owner (Rg.add ([(⟨100, 1⟩ : DPoint)]) (2 : Int) ([300, 50])) (51 : Int))) rfl rfl) rfl rfl rfl ?_
  refine o_pure (p_extract (vs := [.int .i64 (Rg.owner (Rg.add ([(⟨100, 1⟩ : DPoint)]) (2 : Int) ([300, 50])) (51 : Int)), .int .i64 (Rg.ownErr (Rg.add ([(⟨100, 1⟩ : DPoint)]) (2 : Int) ([300, 50])) (51 : Int))]) (v := .int .i64 (Rg.ownErr (Rg.add ([(⟨100, 1⟩ : DPoint)]) (2 : Int) ([300, 50])) (51 : Int))) rfl rfl) rfl rfl rfl ?_
  refine o_pure (p_assign (v := .int .i64 (Rg.owner (Rg.add ([(⟨100, 1⟩ : DPoint)]) (2 : Int) ([300, 50])) (51 : Int))) rfl) rfl rfl rfl ?_
  refine o_pure (p_assign (v := .int .i64 (Rg.ownErr (Rg.add ([(⟨100, 1⟩ : DPoint)]) (2 : Int) ([300, 50])) (51 : Int))) rfl) rfl rfl rfl ?_
  refine o_nil ?_
  refine q_then ?_
  refine c_seq ?_
  refine c_region ?_
  refine o_pure (p_move (v := .slice a9 (Rg.add ([(⟨100, 1⟩ : DPoint)]) (2 : Int) ([300, 50])).length c10) rfl) rfl rfl rfl ?_
  refine o_call0 (v := .tuple #[.int .i64 (Rg.owner (Rg.add ([(⟨100, 1⟩ : DPoint)]) (2 : Int) ([300, 50])) (301 : Int)), .int .i64 (Rg.ownErr (Rg.add ([(⟨100, 1⟩ : DPoint)]) (2 : Int) ([300, 50])) (301 : Int))]) rfl (rowner_ok (Rg.add ([(⟨100, 1⟩ : DPoint)]) (2 : Int) ([300, 50])) a9 c10 (301 : Int)) hf15 (fun w hw => (rd_own (i := 0) rfl) w hw) rfl ?_
  refine o_pure (p_move (v := .tuple #[.int .i64 (Rg.owner (Rg.add ([(⟨100, 1⟩ : DPoint)]) (2 : Int) ([300, 50])) (301 : Int)), .int .i64 (Rg.ownErr (Rg.add ([(⟨100, 1⟩ : DPoint)]) (2 : Int) ([300, 50])) (301 : Int))]) rfl) rfl rfl rfl ?_
  refine o_pure (p_extract (vs := [.int .i64 (Rg.owner (Rg.add ([(⟨100, 1⟩ : DPoint)]) (2 : Int) ([300, 50])) (301 : Int)), .int .i64 (Rg.ownErr (Rg.add ([(⟨100, 1⟩ : DPoint)]) (2 : Int) ([300, 50])) (301 : Int))]) (v := .int .i64 (Rg.owner (Rg.add ([(⟨100, 1⟩ : DPoint)]) (2 : Int) ([300, 50])) (301 : Int))) rfl rfl) rfl rfl rfl ?_
  refine o_pure (p_extract (vs := [.int .i64 (Rg.owner (Rg.add ([(⟨100, 1⟩ : DPoint)]) (2 : Int) ([300, 50])) (301 : Int)), .int .i64 (Rg.ownErr (Rg.add ([(⟨100, 1⟩ : DPoint)]) (2 : Int) ([300, 50])) (301 : Int))]) (v := .int .i64 (Rg.ownErr (Rg.add ([(⟨100, 1⟩ : DPoint)]) (2 : Int) ([300, 50])) (301 : Int))) rfl rfl) rfl rfl rfl ?_
  refine o_pure (p_assign (v := .int .i64 (Rg.owner (Rg.add ([(⟨100, 1⟩ : DPoint)]) (2 : Int) ([300, 50])) (301 : Int))) rfl) rfl rfl rfl ?_
  refine o_pure (p_assign (v := .int .i64 (Rg.ownErr (Rg.add ([(⟨100, 1⟩ : DPoint)]) (2 : Int) ([300, 50])) (301 : Int))) rfl) rfl rfl rfl ?_
  refine o_nil ?_
  refine q_then ?_
  refine c_seq ?_
  refine c_region ?_
  refine o_pure (p_move (v := .slice a9 (Rg.add ([(⟨100, 1⟩ : DPoint)]) (2 : Int) ([300, 50])).length c10) rfl) rfl rfl rfl ?_
  refine o_callM rfl (rshares_ok (Rg.add ([(⟨100, 1⟩ : DPoint)]) (2 : Int) ([300, 50])) a9 c10 (3 : Int)) hf18 (fun w hw => (rd_own (i := 0) rfl) w hw) rfl (fun _ _ _ _ ha hA => SlO.agree ha hA) ?_
  rintro ⟨a14, c15⟩ S12
  refine o_know (fun w hw => own_len (i := 0) (T := tInt) hw rfl) (fun hlr16 => ?_)
  refine o_pure (p_move (v := .tuple #[.slice a14 (Rg.shares (Rg.add ([(⟨100, 1⟩ : DPoint)]) (2 : Int) ([300, 50])) (3 : Int)).length c15, .int .i64 (Rg.shErr (Rg.add ([(⟨100, 1⟩ : DPoint)]) (2 : Int) ([300, 50])) (3 : Int))]) rfl) rfl rfl rfl ?_
  refine o_pure (p_extract (vs := [.slice a14 (Rg.shares (Rg.add ([(⟨100, 1⟩ : DPoint)]) (2 : Int) ([300, 50])) (3 : Int)).length c15, .int .i64 (Rg.shErr (Rg.add ([(⟨100, 1⟩ : DPoint)]) (2 : Int) ([300, 50])) (3 : Int))]) (v := .slice a14 (Rg.shares (Rg.add ([(⟨100, 1⟩ : DPoint)]) (2 : Int) ([300, 50])) (3 : Int)).length c15) rfl rfl) rfl rfl rfl ?_
  refine o_pure (p_extract (vs := [.slice a14 (Rg.shares (Rg.add ([(⟨100, 1⟩ : DPoint)]) (2 : Int) ([300, 50])) (3 : Int)).length c15, .int .i64 (Rg.shErr (Rg.add ([(⟨100, 1⟩ : DPoint)]) (2 : Int) ([300, 50])) (3 : Int))]) (v := .int .i64 (Rg.shErr (Rg.add ([(⟨100, 1⟩ : DPoint)]) (2 : Int) ([300, 50])) (3 : Int))) rfl rfl) rfl rfl rfl ?_
  refine o_pure (p_assign (v := .slice a14 (Rg.shares (Rg.add ([(⟨100, 1⟩ : DPoint)]) (2 : Int) ([300, 50])) (3 : Int)).length c15) rfl) rfl rfl rfl ?_
  refine o_pure (p_assign (v := .int .i64 (Rg.shErr (Rg.add ([(⟨100, 1⟩ : DPoint)]) (2 : Int) ([300, 50])) (3 : Int))) rfl) rfl rfl rfl ?_
  refine o_nil ?_
  refine q_then ?_
  refine c_seq ?_
  refine c_region ?_
  refine o_pure (p_move (v := .slice a9 (Rg.add ([(⟨100, 1⟩ : DPoint)]) (2 : Int) ([300, 50])).length c10) rfl) rfl rfl rfl ?_
  refine o_callM rfl (rremove_ok (Rg.add ([(⟨100, 1⟩ : DPoint)]) (2 : Int) ([300, 50])) a9 c10 (2 : Int)) hf17 (fun w hw => (rd_own (i := 1) rfl) w hw) rfl (fun _ _ _ _ ha hA => SlO.agree ha hA) ?_
  rintro ⟨a19, c20⟩ S17
  refine o_know (fun w hw => own_len (i := 0) (T := tPoint) hw rfl) (fun hlr21 => ?_)
  refine o_pure (p_move (v := .tuple #[.slice a19 (Rg.rem (Rg.add ([(⟨100, 1⟩ : DPoint)]) (2 : Int) ([300, 50])) (2 : Int)).length c20, .int .i64 (Rg.remErr (Rg.add ([(⟨100, 1⟩ : DPoint)]) (2 : Int) ([300, 50])) (2 : Int))]) rfl) rfl rfl rfl ?_
  refine o_pure (p_extract (vs := [.slice a19 (Rg.rem (Rg.add ([(⟨100, 1⟩ : DPoint)]) (2 : Int) ([300, 50])) (2 : Int)).length c20, .int .i64 (Rg.remErr (Rg.add ([(⟨100, 1⟩ : DPoint)]) (2 : Int) ([300, 50])) (2 : Int))]) (v := .slice a19 (Rg.rem (Rg.add ([(⟨100, 1⟩ : DPoint)]) (2 : Int) ([300, 50])) (2 : Int)).length c20) rfl rfl) rfl rfl rfl ?_
  refine o_pure (p_extract (vs := [.slice a19 (Rg.rem (Rg.add ([(⟨100, 1⟩ : DPoint)]) (2 : Int) ([300, 50])) (2 : Int)).length c20, .int .i64 (Rg.remErr (Rg.add ([(⟨100, 1⟩ : DPoint)]) (2 : Int) ([300, 50])) (2 : Int))]) (v := .int .i64 (Rg.remErr (Rg.add ([(⟨100, 1⟩ : DPoint)]) (2 : Int) ([300, 50])) (2 : Int))) rfl rfl) rfl rfl rfl ?_
  refine o_pure (p_assign (v := .slice a19 (Rg.rem (Rg.add ([(⟨100, 1⟩ : DPoint)]) (2 : Int) ([300, 50])) (2 : Int)).length c20) rfl) rfl rfl rfl ?_
  refine o_pure (p_assign (v := .int .i64 (Rg.remErr (Rg.add ([(⟨100, 1⟩ : DPoint)]) (2 : Int) ([300, 50])) (2 : Int))) rfl) rfl rfl rfl ?_
  refine o_nil ?_
  refine q_then ?_
  refine c_seq ?_
  refine c_region ?_
  refine o_call0 (v := .tuple #[.int .i64 (Rg.owner [] (0 : Int)), .int .i64 (Rg.ownErr [] (0 : Int))]) rfl (rowner_ok [] none 0 (0 : Int)) hf15 (fun w hw => rd_nil w hw) rfl ?_
  refine o_pure (p_move (v := .tuple #[.int .i64 (Rg.owner [] (0 : Int)), .int .i64 (Rg.ownErr [] (0 : Int))]) rfl) rfl rfl rfl ?_
  refine o_pure (p_extract (vs := [.int .i64 (Rg.owner [] (0 : Int)), .int .i64 (Rg.ownErr [] (0 : Int))]) (v := .int .i64 (Rg.owner [] (0 : Int))) rfl rfl) rfl rfl rfl ?_
  refine o_pure (p_extract (vs := [.int .i64 (Rg.owner [] (0 : Int)), .int .i64 (Rg.ownErr [] (0 : Int))]) (v := .int .i64 (Rg.ownErr [] (0 : Int))) rfl rfl) rfl rfl rfl ?_
  refine o_pure (p_assign (v := .int .i64 (Rg.owner [] (0 : Int))) rfl) rfl rfl rfl ?_
  refine o_pure (p_assign (v := .int .i64 (Rg.ownErr [] (0 : Int))) rfl) rfl rfl rfl ?_
  refine o_nil ?_
  refine q_then ?_
  refine c_seq ?_
  refine c_region ?_
  refine o_pure (p_move (v := .slice a9 (Rg.add ([(⟨100, 1⟩ : DPoint)]) (2 : Int) ([300, 50])).length c10) rfl) rfl rfl rfl ?_
  refine o_pure (p_build (cells := [.int .i64 50, .int .i64 2]) fp35 ze35 rfl rfl) rfl rfl rfl ?_
  refine o_pure (p_build (cells := [.int .i64 100, .int .i64 1]) fp35 ze35 rfl rfl) rfl rfl rfl ?_
  refine o_pure (p_build (cells := [.int .i64 300, .int .i64 2]) fp35 ze35 rfl rfl) rfl rfl rfl ?_
  refine o_buildSlice (m := 3) (T := tPoint) (L := [(⟨50, 2⟩ : DPoint), (⟨100, 1⟩ : DPoint), (⟨300, 2⟩ : DPoint)]) (vs := [.agg #[.int .i64 50, .int .i64 2], .agg #[.int .i64 100, .int .i64 1], .agg #[.int .i64 300, .int .i64 2]]) rfl rfl rfl rfl Try.underlying22 sz35 (by decide) ze35 rfl (by decide) rfl (fun S22 a23 => ?_)
  refine o_call0 (v := .bool (decide ((Rg.add ([(⟨100, 1⟩ : DPoint)]) (2 : Int) ([300, 50])) = ([(⟨50, 2⟩ : DPoint), (⟨100, 1⟩ : DPoint), (⟨300, 2⟩ : DPoint)])))) rfl (samePoints_ok (Rg.add ([(⟨100, 1⟩ : DPoint)]) (2 : Int) ([300, 50])) a9 c10 ([(⟨50, 2⟩ : DPoint), (⟨100, 1⟩ : DPoint), (⟨300, 2⟩ : DPoint)]) a23 ([(⟨50, 2⟩ : DPoint), (⟨100, 1⟩ : DPoint), (⟨300, 2⟩ : DPoint)].length)) hf25 (fun w hw => ⟨(rd_own (i := 3) rfl) w hw, (rd_own (i := 0) rfl) w hw⟩) rfl ?_
  refine o_pure (p_move (v := .bool (decide ((Rg.add ([(⟨100, 1⟩ : DPoint)]) (2 : Int) ([300, 50])) = ([(⟨50, 2⟩ : DPoint), (⟨100, 1⟩ : DPoint), (⟨300, 2⟩ : DPoint)])))) rfl) rfl rfl rfl ?_
  refine o_and (p := 53) 3 ((Rg.addErr ([(⟨100, 1⟩ : DPoint)]) (2 : Int) ([300, 50])) == 0) ?_ ?_ ?_
  · intro hb25 hk
    simp only [decide_eq_true_eq] at hb25
    refine o_unguard 50 rfl rfl ?_
    refine o_pure (p_move (v := .int .i64 (Rg.addErr ([(⟨100, 1⟩ : DPoint)]) (2 : Int) ([300, 50]))) rfl) rfl rfl rfl ?_
    refine o_unguard 50 rfl rfl ?_
    refine o_pure (p_eq (p := (Rg.addErr ([(⟨100, 1⟩ : DPoint)]) (2 : Int) ([300, 50]))) (q := 0) rfl rfl) rfl rfl rfl ?_
    refine o_pure (p_pick_true (u := .bool ((Rg.addErr ([(⟨100, 1⟩ : DPoint)]) (2 : Int) ([300, 50])) == 0)) rfl rfl) rfl rfl rfl ?_
    exact o_sub (Sub.cons rfl (Sub.skip rfl (Sub.skip rfl (Sub.skip rfl (Sub.skip rfl (Sub.refl _)))))) hk
  · intro hb25 hk
    refine o_guard_no rfl 50 rfl rfl rfl rfl rfl ?_
    refine o_guard_no rfl 50 rfl rfl rfl rfl rfl ?_
    refine o_pure (p_pick_false (v := .bool false) rfl rfl) rfl rfl rfl ?_
    exact o_sub (Sub.cons rfl (Sub.skip rfl (Sub.skip rfl (Sub.skip rfl (Sub.skip rfl (Sub.refl _)))))) hk
  refine o_pure (p_move (v := .bool ((decide ((Rg.add ([(⟨100, 1⟩ : DPoint)]) (2 : Int) ([300, 50])) = ([(⟨50, 2⟩ : DPoint), (⟨100, 1⟩ : DPoint), (⟨300, 2⟩ : DPoint)]))) && ((Rg.addErr ([(⟨100, 1⟩ : DPoint)]) (2 : Int) ([300, 50])) == 0))) rfl) rfl rfl rfl ?_
  refine o_and (p := 57) 3 ((Rg.owner (Rg.add ([(⟨100, 1⟩ : DPoint)]) (2 : Int) ([300, 50])) (51 : Int)) == 1) ?_ ?_ ?_
  · intro hb26 hk
    simp only [Bool.and_eq_true, decide_eq_true_eq, beq_iff_eq] at hb26
    refine o_unguard 54 rfl rfl ?_
    refine o_pure (p_move (v := .int .i64 (Rg.owner (Rg.add ([(⟨100, 1⟩ : DPoint)]) (2 : Int) ([300, 50])) (51 : Int))) rfl) rfl rfl rfl ?_
    refine o_unguard 54 rfl rfl ?_
    refine o_pure (p_eq (p := (Rg.owner (Rg.add ([(⟨100, 1⟩ : DPoint)]) (2 : Int) ([300, 50])) (51 : Int))) (q := 1) rfl rfl) rfl rfl rfl ?_
    refine o_pure (p_pick_true (u := .bool ((Rg.owner (Rg.add ([(⟨100, 1⟩ : DPoint)]) (2 : Int) ([300, 50])) (51 : Int)) == 1)) rfl rfl) rfl rfl rfl ?_
    exact o_sub (Sub.cons rfl (Sub.skip rfl (Sub.skip rfl (Sub.skip rfl (Sub.skip rfl (Sub.refl _)))))) hk
  · intro hb26 hk
    refine o_guard_no rfl 54 rfl rfl rfl rfl rfl ?_
    refine o_guard_no rfl 54 rfl rfl rfl rfl rfl ?_
    refine o_pure (p_pick_false (v := .bool false) rfl rfl) rfl rfl rfl ?_
    exact o_sub (Sub.cons rfl (Sub.skip rfl (Sub.skip rfl (Sub.skip rfl (Sub.skip rfl (Sub.refl _)))))) hk
  refine o_pure (p_move (v := .bool (((decide ((Rg.add ([(⟨100, 1⟩ : DPoint)]) (2 : Int) ([300, 50])) = ([(⟨50, 2⟩ : DPoint), (⟨100, 1⟩ : DPoint), (⟨300, 2⟩ : DPoint)]))) && ((Rg.addErr ([(⟨100, 1⟩ : DPoint)]) (2 : Int) ([300, 50])) == 0)) && ((Rg.owner (Rg.add ([(⟨100, 1⟩ : DPoint)]) (2 : Int) ([300, 50])) (51 : Int)) == 1))) rfl) rfl rfl rfl ?_
  refine o_and (p := 61) 3 ((Rg.ownErr (Rg.add ([(⟨100, 1⟩ : DPoint)]) (2 : Int) ([300, 50])) (51 : Int)) == 0) ?_ ?_ ?_
  · intro hb27 hk
    simp only [Bool.and_eq_true, decide_eq_true_eq, beq_iff_eq] at hb27
    refine o_unguard 58 rfl rfl ?_
    refine o_pure (p_move (v := .int .i64 (Rg.ownErr (Rg.add ([(⟨100, 1⟩ : DPoint)]) (2 : Int) ([300, 50])) (51 : Int))) rfl) rfl rfl rfl ?_
    refine o_unguard 58 rfl rfl ?_
    refine o_pure (p_eq (p := (Rg.ownErr (Rg.add ([(⟨100, 1⟩ : DPoint)]) (2 : Int) ([300, 50])) (51 : Int))) (q := 0) rfl rfl) rfl rfl rfl ?_
    refine o_pure (p_pick_true (u := .bool ((Rg.ownErr (Rg.add ([(⟨100, 1⟩ : DPoint)]) (2 : Int) ([300, 50])) (51 : Int)) == 0)) rfl rfl) rfl rfl rfl ?_
    exact o_sub (Sub.cons rfl (Sub.skip rfl (Sub.skip rfl (Sub.skip rfl (Sub.skip rfl (Sub.refl _)))))) hk
  · intro hb27 hk
    refine o_guard_no rfl 58 rfl rfl rfl rfl rfl ?_
    refine o_guard_no rfl 58 rfl rfl rfl rfl rfl ?_
    refine o_pure (p_pick_false (v := .bool false) rfl rfl) rfl rfl rfl ?_
    exact o_sub (Sub.cons rfl (Sub.skip rfl (Sub.skip rfl (Sub.skip rfl (Sub.skip rfl (Sub.refl _)))))) hk
  refine o_pure (p_move (v := .bool ((((decide ((Rg.add ([(⟨100, 1⟩ : DPoint)]) (2 : Int) ([300, 50])) = ([(⟨50, 2⟩ : DPoint), (⟨100, 1⟩ : DPoint), (⟨300, 2⟩ : DPoint)]))) && ((Rg.addErr ([(⟨100, 1⟩ : DPoint)]) (2 : Int) ([300, 50])) == 0)) && ((Rg.owner (Rg.add ([(⟨100, 1⟩ : DPoint)]) (2 : Int) ([300, 50])) (51 : Int)) == 1)) && ((Rg.ownErr (Rg.add ([(⟨100, 1⟩ : DPoint)]) (2 : Int) ([300, 50])) (51 : Int)) == 0))) rfl) rfl rfl rfl ?_
  refine o_and (p := 65) 3 ((Rg.owner (Rg.add ([(⟨100, 1⟩ : DPoint)]) (2 : Int) ([300, 50])) (301 : Int)) == 2) ?_ ?_ ?_
  · intro hb28 hk
    simp only [Bool.and_eq_true, decide_eq_true_eq, beq_iff_eq] at hb28
    refine o_unguard 62 rfl rfl ?_
    refine o_pure (p_move (v := .int .i64 (Rg.owner (Rg.add ([(⟨100, 1⟩ : DPoint)]) (2 : Int) ([300, 50])) (301 : Int))) rfl) rfl rfl rfl ?_
    refine o_unguard 62 rfl rfl ?_
    refine o_pure (p_eq (p := (Rg.owner (Rg.add ([(⟨100, 1⟩ : DPoint)]) (2 : Int) ([300, 50])) (301 : Int))) (q := 2) rfl rfl) rfl rfl rfl ?_
    refine o_pure (p_pick_true (u := .bool ((Rg.owner (Rg.add ([(⟨100, 1⟩ : DPoint)]) (2 : Int) ([300, 50])) (301 : Int)) == 2)) rfl rfl) rfl rfl rfl ?_
    exact o_sub (Sub.cons rfl (Sub.skip rfl (Sub.skip rfl (Sub.skip rfl (Sub.skip rfl (Sub.refl _)))))) hk
  · intro hb28 hk
    refine o_guard_no rfl 62 rfl rfl rfl rfl rfl ?_
    refine o_guard_no rfl 62 rfl rfl rfl rfl rfl ?_
    refine o_pure (p_pick_false (v := .bool false) rfl rfl) rfl rfl rfl ?_
    exact o_sub (Sub.cons rfl (Sub.skip rfl (Sub.skip rfl (Sub.skip rfl (Sub.skip rfl (Sub.refl _)))))) hk
  refine o_pure (p_move (v := .bool (((((decide ((Rg.add ([(⟨100, 1⟩ : DPoint)]) (2 : Int) ([300, 50])) = ([(⟨50, 2⟩ : DPoint), (⟨100, 1⟩ : DPoint), (⟨300, 2⟩ : DPoint)]))) && ((Rg.addErr ([(⟨100, 1⟩ : DPoint)]) (2 : Int) ([300, 50])) == 0)) && ((Rg.owner (Rg.add ([(⟨100, 1⟩ : DPoint)]) (2 : Int) ([300, 50])) (51 : Int)) == 1)) && ((Rg.ownErr (Rg.add ([(⟨100, 1⟩ : DPoint)]) (2 : Int) ([300, 50])) (51 : Int)) == 0)) && ((Rg.owner (Rg.add ([(⟨100, 1⟩ : DPoint)]) (2 : Int) ([300, 50])) (301 : Int)) == 2))) rfl) rfl rfl rfl ?_
  refine o_and (p := 69) 3 ((Rg.ownErr (Rg.add ([(⟨100, 1⟩ : DPoint)]) (2 : Int) ([300, 50])) (301 : Int)) == 0) ?_ ?_ ?_
  · intro hb29 hk
    simp only [Bool.and_eq_true, decide_eq_true_eq, beq_iff_eq] at hb29
    refine o_unguard 66 rfl rfl ?_
    refine o_pure (p_move (v := .int .i64 (Rg.ownErr (Rg.add ([(⟨100, 1⟩ : DPoint)]) (2 : Int) ([300, 50])) (301 : Int))) rfl) rfl rfl rfl ?_
    refine o_unguard 66 rfl rfl ?_
    refine o_pure (p_eq (p := (Rg.ownErr (Rg.add ([(⟨100, 1⟩ : DPoint)]) (2 : Int) ([300, 50])) (301 : Int))) (q := 0) rfl rfl) rfl rfl rfl ?_
    refine o_pure (p_pick_true (u := .bool ((Rg.ownErr (Rg.add ([(⟨100, 1⟩ : DPoint)]) (2 : Int) ([300, 50])) (301 : Int)) == 0)) rfl rfl) rfl rfl rfl ?_
    exact o_sub (Sub.cons rfl (Sub.skip rfl (Sub.skip rfl (Sub.skip rfl (Sub.skip rfl (Sub.refl _)))))) hk
  · intro hb29 hk
    refine o_guard_no rfl 66 rfl rfl rfl rfl rfl ?_
    refine o_guard_no rfl 66 rfl rfl rfl rfl rfl ?_
    refine o_pure (p_pick_false (v := .bool false) rfl rfl) rfl rfl rfl ?_
    exact o_sub (Sub.cons rfl (Sub.skip rfl (Sub.skip rfl (Sub.skip rfl (Sub.skip rfl (Sub.refl _)))))) hk
  refine o_pure (p_move (v := .bool ((((((decide ((Rg.add ([(⟨100, 1⟩ : DPoint)]) (2 : Int) ([300, 50])) = ([(⟨50, 2⟩ : DPoint), (⟨100, 1⟩ : DPoint), (⟨300, 2⟩ : DPoint)]))) && ((Rg.addErr ([(⟨100, 1⟩ : DPoint)]) (2 : Int) ([300, 50])) == 0)) && ((Rg.owner (Rg.add ([(⟨100, 1⟩ : DPoint)]) (2 : Int) ([300, 50])) (51 : Int)) == 1)) && ((Rg.ownErr (Rg.add ([(⟨100, 1⟩ : DPoint)]) (2 : Int) ([300, 50])) (51 : Int)) == 0)) && ((Rg.owner (Rg.add ([(⟨100, 1⟩ : DPoint)]) (2 : Int) ([300, 50])) (301 : Int)) == 2)) && ((Rg.ownErr (Rg.add ([(⟨100, 1⟩ : DPoint)]) (2 : Int) ([300, 50])) (301 : Int)) == 0))) rfl) rfl rfl rfl ?_
  refine o_and (p := 74) 4 (Ref.sameInts (Rg.shares (Rg.add ([(⟨100, 1⟩ : DPoint)]) (2 : Int) ([300, 50])) (3 : Int)) ([0, 50, 65486])) ?_ ?_ ?_
  · intro hb30 hk
    simp only [Bool.and_eq_true, decide_eq_true_eq, beq_iff_eq] at hb30
    refine o_unguard 70 rfl rfl ?_
    refine o_pure (p_move (v := .slice a14 (Rg.shares (Rg.add ([(⟨100, 1⟩ : DPoint)]) (2 : Int) ([300, 50])) (3 : Int)).length c15) rfl) rfl rfl rfl ?_
    refine o_unguard 70 rfl rfl ?_
    refine o_buildSlice (m := 3) (T := tInt) (L := [0, 50, 65486]) (vs := [.int .i64 0, .int .i64 50, .int .i64 65486]) rfl rfl rfl rfl Try.underlying23 sz3 (by decide) ze3 rfl (by decide) rfl (fun S31 a32 => ?_)
    refine o_unguard 70 rfl rfl ?_
    refine o_call0 (v := .bool (Ref.sameInts (Rg.shares (Rg.add ([(⟨100, 1⟩ : DPoint)]) (2 : Int) ([300, 50])) (3 : Int)) ([0, 50, 65486]))) rfl (sameInts_ok (Rg.shares (Rg.add ([(⟨100, 1⟩ : DPoint)]) (2 : Int) ([300, 50])) (3 : Int)) a14 c15 ([0, 50, 65486]) a32 ([0, 50, 65486].length)) hf26 (fun w hw => ⟨(rd_own (i := 3) rfl) w hw, (rd_own (i := 0) rfl) w hw⟩) rfl ?_
    refine o_pure (p_pick_true (u := .bool (Ref.sameInts (Rg.shares (Rg.add ([(⟨100, 1⟩ : DPoint)]) (2 : Int) ([300, 50])) (3 : Int)) ([0, 50, 65486]))) rfl rfl) rfl rfl rfl ?_
    exact o_sub (Sub.cons rfl (Sub.skip rfl (Sub.skip rfl (Sub.skip rfl (Sub.skip rfl (Sub.skip rfl (Sub.refl _))))))) (o_drop (List.Sublist.cons _ (List.Sublist.cons_cons _ (List.Sublist.cons_cons _ (List.Sublist.cons_cons _ (List.Sublist.cons_cons _ (List.Sublist.cons_cons _ (List.Sublist.cons_cons _ (List.Sublist.cons_cons _ (List.Sublist.slnil))))))))) hk)
  · intro hb30 hk
    refine o_guard_no rfl 70 rfl rfl rfl rfl rfl ?_
    refine o_guard_no rfl 70 rfl rfl rfl rfl rfl ?_
    refine o_guard_no rfl 70 rfl rfl rfl rfl rfl ?_
    refine o_pure (p_pick_false (v := .bool false) rfl rfl) rfl rfl rfl ?_
    exact o_sub (Sub.cons rfl (Sub.skip rfl (Sub.skip rfl (Sub.skip rfl (Sub.skip rfl (Sub.skip rfl (Sub.refl _))))))) hk
  refine o_pure (p_move (v := .bool (((((((decide ((Rg.add ([(⟨100, 1⟩ : DPoint)]) (2 : Int) ([300, 50])) = ([(⟨50, 2⟩ : DPoint), (⟨100, 1⟩ : DPoint), (⟨300, 2⟩ : DPoint)]))) && ((Rg.addErr ([(⟨100, 1⟩ : DPoint)]) (2 : Int) ([300, 50])) == 0)) && ((Rg.owner (Rg.add ([(⟨100, 1⟩ : DPoint)]) (2 : Int) ([300, 50])) (51 : Int)) == 1)) && ((Rg.ownErr (Rg.add ([(⟨100, 1⟩ : DPoint)]) (2 : Int) ([300, 50])) (51 : Int)) == 0)) && ((Rg.owner (Rg.add ([(⟨100, 1⟩ : DPoint)]) (2 : Int) ([300, 50])) (301 : Int)) == 2)) && ((Rg.ownErr (Rg.add ([(⟨100, 1⟩ : DPoint)]) (2 : Int) ([300, 50])) (301 : Int)) == 0)) && (Ref.sameInts (Rg.shares (Rg.add ([(⟨100, 1⟩ : DPoint)]) (2 : Int) ([300, 50])) (3 : Int)) ([0, 50, 65486])))) rfl) rfl rfl rfl ?_
  refine o_and (p := 78) 3 ((Rg.shErr (Rg.add ([(⟨100, 1⟩ : DPoint)]) (2 : Int) ([300, 50])) (3 : Int)) == 0) ?_ ?_ ?_
  · intro hb34 hk
    simp only [Bool.and_eq_true, decide_eq_true_eq, beq_iff_eq] at hb34
    refine o_unguard 75 rfl rfl ?_
    refine o_pure (p_move (v := .int .i64 (Rg.shErr (Rg.add ([(⟨100, 1⟩ : DPoint)]) (2 : Int) ([300, 50])) (3 : Int))) rfl) rfl rfl rfl ?_
    refine o_unguard 75 rfl rfl ?_
    refine o_pure (p_eq (p := (Rg.shErr (Rg.add ([(⟨100, 1⟩ : DPoint)]) (2 : Int) ([300, 50])) (3 : Int))) (q := 0) rfl rfl) rfl rfl rfl ?_
    refine o_pure (p_pick_true (u := .bool ((Rg.shErr (Rg.add ([(⟨100, 1⟩ : DPoint)]) (2 : Int) ([300, 50])) (3 : Int)) == 0)) rfl rfl) rfl rfl rfl ?_
    exact o_sub (Sub.cons rfl (Sub.skip rfl (Sub.skip rfl (Sub.skip rfl (Sub.skip rfl (Sub.refl _)))))) hk
  · intro hb34 hk
    refine o_guard_no rfl 75 rfl rfl rfl rfl rfl ?_
    refine o_guard_no rfl 75 rfl rfl rfl rfl rfl ?_
    refine o_pure (p_pick_false (v := .bool false) rfl rfl) rfl rfl rfl ?_
    exact o_sub (Sub.cons rfl (Sub.skip rfl (Sub.skip rfl (Sub.skip rfl (Sub.skip rfl (Sub.refl _)))))) hk
  refine o_pure (p_move (v := .bool ((((((((decide ((Rg.add ([(⟨100, 1⟩ : DPoint)]) (2 : Int) ([300, 50])) = ([(⟨50, 2⟩ : DPoint), (⟨100, 1⟩ : DPoint), (⟨300, 2⟩ : DPoint)]))) && ((Rg.addErr ([(⟨100, 1⟩ : DPoint)]) (2 : Int) ([300, 50])) == 0)) && ((Rg.owner (Rg.add ([(⟨100, 1⟩ : DPoint)]) (2 : Int) ([300, 50])) (51 : Int)) == 1)) && ((Rg.ownErr (Rg.add ([(⟨100, 1⟩ : DPoint)]) (2 : Int) ([300, 50])) (51 : Int)) == 0)) && ((Rg.owner (Rg.add ([(⟨100, 1⟩ : DPoint)]) (2 : Int) ([300, 50])) (301 : Int)) == 2)) && ((Rg.ownErr (Rg.add ([(⟨100, 1⟩ : DPoint)]) (2 : Int) ([300, 50])) (301 : Int)) == 0)) && (Ref.sameInts (Rg.shares (Rg.add ([(⟨100, 1⟩ : DPoint)]) (2 : Int) ([300, 50])) (3 : Int)) ([0, 50, 65486]))) && ((Rg.shErr (Rg.add ([(⟨100, 1⟩ : DPoint)]) (2 : Int) ([300, 50])) (3 : Int)) == 0))) rfl) rfl rfl rfl ?_
  refine o_and (p := 83) 4 (((Rg.rem (Rg.add ([(⟨100, 1⟩ : DPoint)]) (2 : Int) ([300, 50])) (2 : Int)).length : Int) == 1) ?_ ?_ ?_
  · intro hb35 hk
    simp only [Bool.and_eq_true, decide_eq_true_eq, beq_iff_eq] at hb35
    refine o_unguard 79 rfl rfl ?_
    refine o_pure (p_move (v := .slice a19 (Rg.rem (Rg.add ([(⟨100, 1⟩ : DPoint)]) (2 : Int) ([300, 50])) (2 : Int)).length c20) rfl) rfl rfl rfl ?_
    refine o_unguard 79 rfl rfl ?_
    refine o_pure (p_len_slice (len := (Rg.rem (Rg.add ([(⟨100, 1⟩ : DPoint)]) (2 : Int) ([300, 50])) (2 : Int)).length) rfl rfl Try.underlying22) rfl rfl rfl ?_
    refine o_unguard 79 rfl rfl ?_
    refine o_pure (p_eq (p := ((Rg.rem (Rg.add ([(⟨100, 1⟩ : DPoint)]) (2 : Int) ([300, 50])) (2 : Int)).length : Int)) (q := 1) rfl rfl) rfl rfl rfl ?_
    refine o_pure (p_pick_true (u := .bool (((Rg.rem (Rg.add ([(⟨100, 1⟩ : DPoint)]) (2 : Int) ([300, 50])) (2 : Int)).length : Int) == 1)) rfl rfl) rfl rfl rfl ?_
    exact o_sub (Sub.cons rfl (Sub.skip rfl (Sub.skip rfl (Sub.skip rfl (Sub.skip rfl (Sub.skip rfl (Sub.refl _))))))) hk
  · intro hb35 hk
    refine o_guard_no rfl 79 rfl rfl rfl rfl rfl ?_
    refine o_guard_no rfl 79 rfl rfl rfl rfl rfl ?_
    refine o_guard_no rfl 79 rfl rfl rfl rfl rfl ?_
    refine o_pure (p_pick_false (v := .bool false) rfl rfl) rfl rfl rfl ?_
    exact o_sub (Sub.cons rfl (Sub.skip rfl (Sub.skip rfl (Sub.skip rfl (Sub.skip rfl (Sub.skip rfl (Sub.refl _))))))) hk
  refine o_pure (p_move (v := .bool (((((((((decide ((Rg.add ([(⟨100, 1⟩ : DPoint)]) (2 : Int) ([300, 50])) = ([(⟨50, 2⟩ : DPoint), (⟨100, 1⟩ : DPoint), (⟨300, 2⟩ : DPoint)]))) && ((Rg.addErr ([(⟨100, 1⟩ : DPoint)]) (2 : Int) ([300, 50])) == 0)) && ((Rg.owner (Rg.add ([(⟨100, 1⟩ : DPoint)]) (2 : Int) ([300, 50])) (51 : Int)) == 1)) && ((Rg.ownErr (Rg.add ([(⟨100, 1⟩ : DPoint)]) (2 : Int) ([300, 50])) (51 : Int)) == 0)) && ((Rg.owner (Rg.add ([(⟨100, 1⟩ : DPoint)]) (2 : Int) ([300, 50])) (301 : Int)) == 2)) && ((Rg.ownErr (Rg.add ([(⟨100, 1⟩ : DPoint)]) (2 : Int) ([300, 50])) (301 : Int)) == 0)) && (Ref.sameInts (Rg.shares (Rg.add ([(⟨100, 1⟩ : DPoint)]) (2 : Int) ([300, 50])) (3 : Int)) ([0, 50, 65486]))) && ((Rg.shErr (Rg.add ([(⟨100, 1⟩ : DPoint)]) (2 : Int) ([300, 50])) (3 : Int)) == 0)) && (((Rg.rem (Rg.add ([(⟨100, 1⟩ : DPoint)]) (2 : Int) ([300, 50])) (2 : Int)).length : Int) == 1))) rfl) rfl rfl rfl ?_
  refine o_and (p := 87) 3 ((Rg.remErr (Rg.add ([(⟨100, 1⟩ : DPoint)]) (2 : Int) ([300, 50])) (2 : Int)) == 0) ?_ ?_ ?_
  · intro hb36 hk
    simp only [Bool.and_eq_true, decide_eq_true_eq, beq_iff_eq] at hb36
    refine o_unguard 84 rfl rfl ?_
    refine o_pure (p_move (v := .int .i64 (Rg.remErr (Rg.add ([(⟨100, 1⟩ : DPoint)]) (2 : Int) ([300, 50])) (2 : Int))) rfl) rfl rfl rfl ?_
    refine o_unguard 84 rfl rfl ?_
    refine o_pure (p_eq (p := (Rg.remErr (Rg.add ([(⟨100, 1⟩ : DPoint)]) (2 : Int) ([300, 50])) (2 : Int))) (q := 0) rfl rfl) rfl rfl rfl ?_
    refine o_pure (p_pick_true (u := .bool ((Rg.remErr (Rg.add ([(⟨100, 1⟩ : DPoint)]) (2 : Int) ([300, 50])) (2 : Int)) == 0)) rfl rfl) rfl rfl rfl ?_
    exact o_sub (Sub.cons rfl (Sub.skip rfl (Sub.skip rfl (Sub.skip rfl (Sub.skip rfl (Sub.refl _)))))) hk
  · intro hb36 hk
    refine o_guard_no rfl 84 rfl rfl rfl rfl rfl ?_
    refine o_guard_no rfl 84 rfl rfl rfl rfl rfl ?_
    refine o_pure (p_pick_false (v := .bool false) rfl rfl) rfl rfl rfl ?_
    exact o_sub (Sub.cons rfl (Sub.skip rfl (Sub.skip rfl (Sub.skip rfl (Sub.skip rfl (Sub.refl _)))))) hk
  refine o_pure (p_move (v := .bool ((((((((((decide ((Rg.add ([(⟨100, 1⟩ : DPoint)]) (2 : Int) ([300, 50])) = ([(⟨50, 2⟩ : DPoint), (⟨100, 1⟩ : DPoint), (⟨300, 2⟩ : DPoint)]))) && ((Rg.addErr ([(⟨100, 1⟩ : DPoint)]) (2 : Int) ([300, 50])) == 0)) && ((Rg.owner (Rg.add ([(⟨100, 1⟩ : DPoint)]) (2 : Int) ([300, 50])) (51 : Int)) == 1)) && ((Rg.ownErr (Rg.add ([(⟨100, 1⟩ : DPoint)]) (2 : Int) ([300, 50])) (51 : Int)) == 0)) && ((Rg.owner (Rg.add ([(⟨100, 1⟩ : DPoint)]) (2 : Int) ([300, 50])) (301 : Int)) == 2)) && ((Rg.ownErr (Rg.add ([(⟨100, 1⟩ : DPoint)]) (2 : Int) ([300, 50])) (301 : Int)) == 0)) && (Ref.sameInts (Rg.shares (Rg.add ([(⟨100, 1⟩ : DPoint)]) (2 : Int) ([300, 50])) (3 : Int)) ([0, 50, 65486]))) && ((Rg.shErr (Rg.add ([(⟨100, 1⟩ : DPoint)]) (2 : Int) ([300, 50])) (3 : Int)) == 0)) && (((Rg.rem (Rg.add ([(⟨100, 1⟩ : DPoint)]) (2 : Int) ([300, 50])) (2 : Int)).length : Int) == 1)) && ((Rg.remErr (Rg.add ([(⟨100, 1⟩ : DPoint)]) (2 : Int) ([300, 50])) (2 : Int)) == 0))) rfl) rfl rfl rfl ?_
  refine o_and (p := 91) 3 ((Rg.ownErr [] (0 : Int)) == 5) ?_ ?_ ?_
  · intro hb37 hk
    simp only [Bool.and_eq_true, decide_eq_true_eq, beq_iff_eq] at hb37
    refine o_unguard 88 rfl rfl ?_
    refine o_pure (p_move (v := .int .i64 (Rg.ownErr [] (0 : Int))) rfl) rfl rfl rfl ?_
    refine o_unguard 88 rfl rfl ?_
    refine o_pure (p_eq (p := (Rg.ownErr [] (0 : Int))) (q := 5) rfl rfl) rfl rfl rfl ?_
    refine o_pure (p_pick_true (u := .bool ((Rg.ownErr [] (0 : Int)) == 5)) rfl rfl) rfl rfl rfl ?_
    exact o_sub (Sub.cons rfl (Sub.skip rfl (Sub.skip rfl (Sub.skip rfl (Sub.skip rfl (Sub.refl _)))))) hk
  · intro hb37 hk
    refine o_guard_no rfl 88 rfl rfl rfl rfl rfl ?_
    refine o_guard_no rfl 88 rfl rfl rfl rfl rfl ?_
    refine o_pure (p_pick_false (v := .bool false) rfl rfl) rfl rfl rfl ?_
    exact o_sub (Sub.cons rfl (Sub.skip rfl (Sub.skip rfl (Sub.skip rfl (Sub.skip rfl (Sub.refl _)))))) hk
  refine o_pure (p_assign (v := .bool (((((((((((decide ((Rg.add ([(⟨100, 1⟩ : DPoint)]) (2 : Int) ([300, 50])) = ([(⟨50, 2⟩ : DPoint), (⟨100, 1⟩ : DPoint), (⟨300, 2⟩ : DPoint)]))) && ((Rg.addErr ([(⟨100, 1⟩ : DPoint)]) (2 : Int) ([300, 50])) == 0)) && ((Rg.owner (Rg.add ([(⟨100, 1⟩ : DPoint)]) (2 : Int) ([300, 50])) (51 : Int)) == 1)) && ((Rg.ownErr (Rg.add ([(⟨100, 1⟩ : DPoint)]) (2 : Int) ([300, 50])) (51 : Int)) == 0)) && ((Rg.owner (Rg.add ([(⟨100, 1⟩ : DPoint)]) (2 : Int) ([300, 50])) (301 : Int)) == 2)) && ((Rg.ownErr (Rg.add ([(⟨100, 1⟩ : DPoint)]) (2 : Int) ([300, 50])) (301 : Int)) == 0)) && (Ref.sameInts (Rg.shares (Rg.add ([(⟨100, 1⟩ : DPoint)]) (2 : Int) ([300, 50])) (3 : Int)) ([0, 50, 65486]))) && ((Rg.shErr (Rg.add ([(⟨100, 1⟩ : DPoint)]) (2 : Int) ([300, 50])) (3 : Int)) == 0)) && (((Rg.rem (Rg.add ([(⟨100, 1⟩ : DPoint)]) (2 : Int) ([300, 50])) (2 : Int)).length : Int) == 1)) && ((Rg.remErr (Rg.add ([(⟨100, 1⟩ : DPoint)]) (2 : Int) ([300, 50])) (2 : Int)) == 0)) && ((Rg.ownErr [] (0 : Int)) == 5))) rfl) rfl rfl rfl ?_
  refine o_nil ?_
  refine q_then ?_
  refine c_ret ?_
  have hr0 : ((((((((((((decide ((Rg.add ([(⟨100, 1⟩ : DPoint)]) (2 : Int) ([300, 50])) = ([(⟨50, 2⟩ : DPoint), (⟨100, 1⟩ : DPoint), (⟨300, 2⟩ : DPoint)]))) && ((Rg.addErr ([(⟨100, 1⟩ : DPoint)]) (2 : Int) ([300, 50])) == 0)) && ((Rg.owner (Rg.add ([(⟨100, 1⟩ : DPoint)]) (2 : Int) ([300, 50])) (51 : Int)) == 1)) && ((Rg.ownErr (Rg.add ([(⟨100, 1⟩ : DPoint)]) (2 : Int) ([300, 50])) (51 : Int)) == 0)) && ((Rg.owner (Rg.add ([(⟨100, 1⟩ : DPoint)]) (2 : Int) ([300, 50])) (301 : Int)) == 2)) && ((Rg.ownErr (Rg.add ([(⟨100, 1⟩ : DPoint)]) (2 : Int) ([300, 50])) (301 : Int)) == 0)) && (Ref.sameInts (Rg.shares (Rg.add ([(⟨100, 1⟩ : DPoint)]) (2 : Int) ([300, 50])) (3 : Int)) ([0, 50, 65486]))) && ((Rg.shErr (Rg.add ([(⟨100, 1⟩ : DPoint)]) (2 : Int) ([300, 50])) (3 : Int)) == 0)) && (((Rg.rem (Rg.add ([(⟨100, 1⟩ : DPoint)]) (2 : Int) ([300, 50])) (2 : Int)).length : Int) == 1)) && ((Rg.remErr (Rg.add ([(⟨100, 1⟩ : DPoint)]) (2 : Int) ([300, 50])) (2 : Int)) == 0)) && ((Rg.ownErr [] (0 : Int)) == 5)) : Bool) = true := by
    first | rfl | decide +kernel
  refine q_end0 (v := .bool (((((((((((decide ((Rg.add ([(⟨100, 1⟩ : DPoint)]) (2 : Int) ([300, 50])) = ([(⟨50, 2⟩ : DPoint), (⟨100, 1⟩ : DPoint), (⟨300, 2⟩ : DPoint)]))) && ((Rg.addErr ([(⟨100, 1⟩ : DPoint)]) (2 : Int) ([300, 50])) == 0)) && ((Rg.owner (Rg.add ([(⟨100, 1⟩ : DPoint)]) (2 : Int) ([300, 50])) (51 : Int)) == 1)) && ((Rg.ownErr (Rg.add ([(⟨100, 1⟩ : DPoint)]) (2 : Int) ([300, 50])) (51 : Int)) == 0)) && ((Rg.owner (Rg.add ([(⟨100, 1⟩ : DPoint)]) (2 : Int) ([300, 50])) (301 : Int)) == 2)) && ((Rg.ownErr (Rg.add ([(⟨100, 1⟩ : DPoint)]) (2 : Int) ([300, 50])) (301 : Int)) == 0)) && (Ref.sameInts (Rg.shares (Rg.add ([(⟨100, 1⟩ : DPoint)]) (2 : Int) ([300, 50])) (3 : Int)) ([0, 50, 65486]))) && ((Rg.shErr (Rg.add ([(⟨100, 1⟩ : DPoint)]) (2 : Int) ([300, 50])) (3 : Int)) == 0)) && (((Rg.rem (Rg.add ([(⟨100, 1⟩ : DPoint)]) (2 : Int) ([300, 50])) (2 : Int)).length : Int) == 1)) && ((Rg.remErr (Rg.add ([(⟨100, 1⟩ : DPoint)]) (2 : Int) ([300, 50])) (2 : Int)) == 0)) && ((Rg.ownErr [] (0 : Int)) == 5))) (rt1 rfl (r_tmp rfl)) (i := 6) rfl ?_
  exact (by have hcc := congrArg (fun (y0 : Bool) => (.bool y0 : Value)) hr0; exact hcc)
end Go.Proofs.Ytgjdmnljnimamaa
