/- The walks, printed by a program from the translation and a specification. -/
import Derived.Test.YtgjdmnljnimamaaOpF
import Derived.Test.YtgjdmnljnimamaaOpLaw2
import Derived.Test.YtgjdmnljnimamaaOpW6
import Derived.Test.YtgjdmnljnimamaaOpW2
namespace Go.Proofs.Ytgjdmnljnimamaa
open Go.Sx Go.RowKit
set_option maxHeartbeats 8000000 in
set_option maxRecDepth 100000 in
theorem belady_ok  : FnM Try.prog 73 [] (fun _ => True) (Option Addr × Nat) (fun p => .slice p.1 ([1, 2, 3, 4, 1, 2, 5, 1, 2, 3, 4, 5]).length p.2) (fun p S w => SlO tInt S w p.1 p.2 ([1, 2, 3, 4, 1, 2, 5, 1, 2, 3, 4, 5])) := by
  refine fnM (nt := 2) (F0 := []) Try.func73 rfl Try.ntmps73 rfl rfl (fun w0 hpre => ?_)
  refine c_seq ?_
  refine c_region ?_
  refine o_pure (p_assign (v := .slice none 0 0) rfl) rfl rfl rfl ?_
  refine o_nil ?_
  refine q_then ?_
  refine c_seq ?_
  refine c_region ?_
  refine o_buildSlice (m := 12) (T := tInt) (L := [1, 2, 3, 4, 1, 2, 5, 1, 2, 3, 4, 5]) (vs := [.int .i64 1, .int .i64 2, .int .i64 3, .int .i64 4, .int .i64 1, .int .i64 2, .int .i64 5, .int .i64 1, .int .i64 2, .int .i64 3, .int .i64 4, .int .i64 5]) rfl rfl rfl rfl Try.underlying23 sz3 (by decide) ze3 rfl (by decide) rfl (fun S1 a2 => ?_)
  refine o_pure (p_assign (v := .slice a2 ([1, 2, 3, 4, 1, 2, 5, 1, 2, 3, 4, 5]).length ([1, 2, 3, 4, 1, 2, 5, 1, 2, 3, 4, 5].length)) rfl) rfl rfl rfl ?_
  refine o_nil ?_
  refine q_then ?_
  refine c_ret ?_
  refine q_endM (p := (a2, [1, 2, 3, 4, 1, 2, 5, 1, 2, 3, 4, 5].length)) S1 (rt1 rfl (r_tmp rfl)) (i := 1) rfl ?_ ?_ ?_
  · exact rfl
  · exact fun w hw => hw.above (i := 1) (j := 0) (by decide) rfl rfl
  · intro w hw; exact (hw.at (i := 0) rfl).here

set_option maxHeartbeats 8000000 in
set_option maxRecDepth 100000 in
theorem bestBegun_ok  : Fn0 Try.prog 43 [] (fun _ => True) (.bool true) := by
  refine fn0 (nt := 66) (F0 := []) Try.func43 rfl Try.ntmps43 rfl rfl (fun w0 hpre => ?_)
  have hb12 : (Opt.ev [1, 2, 3, 4, 1, 2, 5, 1, 2, 3, 4, 5] 3).1.length = 12 := by decide +kernel
  refine c_seq ?_
  refine c_region ?_
  refine o_pure (p_assign (v := .bool false) rfl) rfl rfl rfl ?_
  refine o_nil ?_
  refine q_then ?_
  refine c_seq ?_
  refine c_region ?_
  refine o_callM rfl (belady_ok ) hf73 (fun _ _ => trivial) rfl (fun _ _ _ _ ha hA => SlO.agree ha hA) ?_
  rintro ⟨a3, c4⟩ S1
  refine o_know (fun w hw => own_len (i := 0) (T := tInt) hw rfl) (fun hlr5 => ?_)
  refine o_callM rfl (oevict_ok ([1, 2, 3, 4, 1, 2, 5, 1, 2, 3, 4, 5]) a3 c4 (3 : Int)) hf38 (fun w hw => (rd_own (i := 0) rfl) w hw) rfl (fun _ _ _ _ ha hA => SlO.agree ha hA) ?_
  rintro ⟨a8, c9⟩ S6
  refine o_know (fun w hw => own_len (i := 0) (T := tInt) hw rfl) (fun hlr10 => ?_)
  refine o_pure (p_move (v := .tuple #[.slice a8 ((Opt.ev ([1, 2, 3, 4, 1, 2, 5, 1, 2, 3, 4, 5]) (3 : Int)).1).length c9, .int .i64 ((Opt.ev ([1, 2, 3, 4, 1, 2, 5, 1, 2, 3, 4, 5]) (3 : Int)).2), .int .i64 (Opt.evErr ([1, 2, 3, 4, 1, 2, 5, 1, 2, 3, 4, 5]) (3 : Int))]) rfl) rfl rfl rfl ?_
  refine o_pure (p_extract (vs := [.slice a8 ((Opt.ev ([1, 2, 3, 4, 1, 2, 5, 1, 2, 3, 4, 5]) (3 : Int)).1).length c9, .int .i64 ((Opt.ev ([1, 2, 3, 4, 1, 2, 5, 1, 2, 3, 4, 5]) (3 : Int)).2), .int .i64 (Opt.evErr ([1, 2, 3, 4, 1, 2, 5, 1, 2, 3, 4, 5]) (3 : Int))]) (v := .slice a8 ((Opt.ev ([1, 2, 3, 4, 1, 2, 5, 1, 2, 3, 4, 5]) (3 : Int)).1).length c9) rfl rfl) rfl rfl rfl ?_
  refine o_pure (p_extract (vs := [.slice a8 ((Opt.ev ([1, 2, 3, 4, 1, 2, 5, 1, 2, 3, 4, 5]) (3 : Int)).1).length c9, .int .i64 ((Opt.ev ([1, 2, 3, 4, 1, 2, 5, 1, 2, 3, 4, 5]) (3 : Int)).2), .int .i64 (Opt.evErr ([1, 2, 3, 4, 1, 2, 5, 1, 2, 3, 4, 5]) (3 : Int))]) (v := .int .i64 ((Opt.ev ([1, 2, 3, 4, 1, 2, 5, 1, 2, 3, 4, 5]) (3 : Int)).2)) rfl rfl) rfl rfl rfl ?_
  refine o_pure (p_extract (vs := [.slice a8 ((Opt.ev ([1, 2, 3, 4, 1, 2, 5, 1, 2, 3, 4, 5]) (3 : Int)).1).length c9, .int .i64 ((Opt.ev ([1, 2, 3, 4, 1, 2, 5, 1, 2, 3, 4, 5]) (3 : Int)).2), .int .i64 (Opt.evErr ([1, 2, 3, 4, 1, 2, 5, 1, 2, 3, 4, 5]) (3 : Int))]) (v := .int .i64 (Opt.evErr ([1, 2, 3, 4, 1, 2, 5, 1, 2, 3, 4, 5]) (3 : Int))) rfl rfl) rfl rfl rfl ?_
  refine o_pure (p_assign (v := .slice a8 ((Opt.ev ([1, 2, 3, 4, 1, 2, 5, 1, 2, 3, 4, 5]) (3 : Int)).1).length c9) rfl) rfl rfl rfl ?_
  refine o_pure (p_assign (v := .int .i64 ((Opt.ev ([1, 2, 3, 4, 1, 2, 5, 1, 2, 3, 4, 5]) (3 : Int)).2)) rfl) rfl rfl rfl ?_
  refine o_pure (p_assign (v := .int .i64 (Opt.evErr ([1, 2, 3, 4, 1, 2, 5, 1, 2, 3, 4, 5]) (3 : Int))) rfl) rfl rfl rfl ?_
  refine o_nil ?_
  refine q_then ?_
  refine c_seq ?_
  refine c_region ?_
  refine o_callM rfl (belady_ok ) hf73 (fun _ _ => trivial) rfl (fun _ _ _ _ ha hA => SlO.agree ha hA) ?_
  rintro ⟨a13, c14⟩ S11
  refine o_know (fun w hw => own_len (i := 0) (T := tInt) hw rfl) (fun hlr15 => ?_)
  refine o_call0 (v := .tuple #[.int .i64 (Opt.next ([1, 2, 3, 4, 1, 2, 5, 1, 2, 3, 4, 5]) (0 : Int)), .int .i64 (Opt.nextErr ([1, 2, 3, 4, 1, 2, 5, 1, 2, 3, 4, 5]) (0 : Int))]) rfl (onext_ok ([1, 2, 3, 4, 1, 2, 5, 1, 2, 3, 4, 5]) a13 c14 (0 : Int)) hf39 (fun w hw => (rd_own (i := 0) rfl) w hw) rfl ?_
  refine o_pure (p_move (v := .tuple #[.int .i64 (Opt.next ([1, 2, 3, 4, 1, 2, 5, 1, 2, 3, 4, 5]) (0 : Int)), .int .i64 (Opt.nextErr ([1, 2, 3, 4, 1, 2, 5, 1, 2, 3, 4, 5]) (0 : Int))]) rfl) rfl rfl rfl ?_
  refine o_pure (p_extract (vs := [.int .i64 (Opt.next ([1, 2, 3, 4, 1, 2, 5, 1, 2, 3, 4, 5]) (0 : Int)), .int .i64 (Opt.nextErr ([1, 2, 3, 4, 1, 2, 5, 1, 2, 3, 4, 5]) (0 : Int))]) (v := .int .i64 (Opt.next ([1, 2, 3, 4, 1, 2, 5, 1, 2, 3, 4, 5]) (0 : Int))) rfl rfl) rfl rfl rfl ?_
  refine o_pure (p_extract (vs := [.int .i64 (Opt.next ([1, 2, 3, 4, 1, 2, 5, 1, 2, 3, 4, 5]) (0 : Int)), .int .i64 (Opt.nextErr ([1, 2, 3, 4, 1, 2, 5, 1, 2, 3, 4, 5]) (0 : Int))]) (v := .int .i64 (Opt.nextErr ([1, 2, 3, 4, 1, 2, 5, 1, 2, 3, 4, 5]) (0 : Int))) rfl rfl) rfl rfl rfl ?_
  refine o_pure (p_assign (v := .int .i64 (Opt.next ([1, 2, 3, 4, 1, 2, 5, 1, 2, 3, 4, 5]) (0 : Int))) rfl) rfl rfl rfl ?_
  refine o_pure (p_assign (v := .int .i64 (Opt.nextErr ([1, 2, 3, 4, 1, 2, 5, 1, 2, 3, 4, 5]) (0 : Int))) rfl) rfl rfl rfl ?_
  refine o_nil ?_
  refine q_then ?_
  refine c_seq ?_
  refine c_region ?_
  refine o_call0 (v := .tuple #[.int .i64 (Opt.bound (10 : Int) (4 : Int) (2 : Int)), .int .i64 (Opt.boundErr (10 : Int) (4 : Int) (2 : Int))]) rfl (obound_ok (10 : Int) (4 : Int) (2 : Int)) hf40 (fun _ _ => trivial) rfl ?_
  refine o_pure (p_move (v := .tuple #[.int .i64 (Opt.bound (10 : Int) (4 : Int) (2 : Int)), .int .i64 (Opt.boundErr (10 : Int) (4 : Int) (2 : Int))]) rfl) rfl rfl rfl ?_
  refine o_pure (p_extract (vs := [.int .i64 (Opt.bound (10 : Int) (4 : Int) (2 : Int)), .int .i64 (Opt.boundErr (10 : Int) (4 : Int) (2 : Int))]) (v := .int .i64 (Opt.bound (10 : Int) (4 : Int) (2 : Int))) rfl rfl) rfl rfl rfl ?_
  refine o_pure (p_extract (vs := [.int .i64 (Opt.bound (10 : Int) (4 : Int) (2 : Int)), .int .i64 (Opt.boundErr (10 : Int) (4 : Int) (2 : Int))]) (v := .int .i64 (Opt.boundErr (10 : Int) (4 : Int) (2 : Int))) rfl rfl) rfl rfl rfl ?_
  refine o_pure (p_assign (v := .int .i64 (Opt.bound (10 : Int) (4 : Int) (2 : Int))) rfl) rfl rfl rfl ?_
  refine o_pure (p_assign (v := .int .i64 (Opt.boundErr (10 : Int) (4 : Int) (2 : Int))) rfl) rfl rfl rfl ?_
  refine o_nil ?_
  refine q_then ?_
  refine c_seq ?_
  refine c_region ?_
  refine o_call0 (v := .tuple #[.int .i64 (Opt.bound (1 : Int) (1 : Int) (2 : Int)), .int .i64 (Opt.boundErr (1 : Int) (1 : Int) (2 : Int))]) rfl (obound_ok (1 : Int) (1 : Int) (2 : Int)) hf40 (fun _ _ => trivial) rfl ?_
  refine o_pure (p_move (v := .tuple #[.int .i64 (Opt.bound (1 : Int) (1 : Int) (2 : Int)), .int .i64 (Opt.boundErr (1 : Int) (1 : Int) (2 : Int))]) rfl) rfl rfl rfl ?_
  refine o_pure (p_extract (vs := [.int .i64 (Opt.bound (1 : Int) (1 : Int) (2 : Int)), .int .i64 (Opt.boundErr (1 : Int) (1 : Int) (2 : Int))]) (v := .int .i64 (Opt.bound (1 : Int) (1 : Int) (2 : Int))) rfl rfl) rfl rfl rfl ?_
  refine o_pure (p_extract (vs := [.int .i64 (Opt.bound (1 : Int) (1 : Int) (2 : Int)), .int .i64 (Opt.boundErr (1 : Int) (1 : Int) (2 : Int))]) (v := .int .i64 (Opt.boundErr (1 : Int) (1 : Int) (2 : Int))) rfl rfl) rfl rfl rfl ?_
  refine o_pure (p_assign (v := .int .i64 (Opt.bound (1 : Int) (1 : Int) (2 : Int))) rfl) rfl rfl rfl ?_
  refine o_pure (p_assign (v := .int .i64 (Opt.boundErr (1 : Int) (1 : Int) (2 : Int))) rfl) rfl rfl rfl ?_
  refine o_nil ?_
  refine q_then ?_
  refine c_seq ?_
  refine c_region ?_
  refine o_pure (p_move (v := .slice a8 ((Opt.ev ([1, 2, 3, 4, 1, 2, 5, 1, 2, 3, 4, 5]) (3 : Int)).1).length c9) rfl) rfl rfl rfl ?_
  refine o_pure (p_len_slice (len := ((Opt.ev ([1, 2, 3, 4, 1, 2, 5, 1, 2, 3, 4, 5]) (3 : Int)).1).length) rfl rfl Try.underlying23) rfl rfl rfl ?_
  refine o_pure (p_eq (p := (((Opt.ev ([1, 2, 3, 4, 1, 2, 5, 1, 2, 3, 4, 5]) (3 : Int)).1).length : Int)) (q := 12) rfl rfl) rfl rfl rfl ?_
  refine o_pure (p_move (v := .bool ((((Opt.ev ([1, 2, 3, 4, 1, 2, 5, 1, 2, 3, 4, 5]) (3 : Int)).1).length : Int) == 12)) rfl) rfl rfl rfl ?_
  refine o_and (p := 37) 5 (((Opt.ev ([1, 2, 3, 4, 1, 2, 5, 1, 2, 3, 4, 5]) (3 : Int)).1)[3] == 3) ?_ ?_ ?_
  · intro hb16 hk
    simp only [beq_iff_eq] at hb16
    refine o_unguard 32 rfl rfl ?_
    refine o_pure (p_move (v := .slice a8 ((Opt.ev ([1, 2, 3, 4, 1, 2, 5, 1, 2, 3, 4, 5]) (3 : Int)).1).length c9) rfl) rfl rfl rfl ?_
    refine o_unguard 32 rfl rfl ?_
    refine o_pure (p_indexAddr (L := ((Opt.ev ([1, 2, 3, 4, 1, 2, 5, 1, 2, 3, 4, 5]) (3 : Int)).1)) (T := tInt) (i := 3) rfl rfl (rd_own (i := 1) rfl) Try.underlying23 sz3 (by first | omega | decide +kernel) (by first | omega | decide +kernel)) rfl rfl rfl ?_
    refine o_unguard 32 rfl rfl ?_
    refine o_pure (p_loadE1 (i := 3) (T := tInt) (L := ((Opt.ev ([1, 2, 3, 4, 1, 2, 5, 1, 2, 3, 4, 5]) (3 : Int)).1)) (v := .int .i64 (((Opt.ev ([1, 2, 3, 4, 1, 2, 5, 1, 2, 3, 4, 5]) (3 : Int)).1)[3])) rfl (rd_own (i := 1) rfl) (by first | assumption | omega | decide +kernel) sh3 rfl) rfl rfl rfl ?_
    refine o_unguard 32 rfl rfl ?_
    refine o_pure (p_eq (p := ((Opt.ev ([1, 2, 3, 4, 1, 2, 5, 1, 2, 3, 4, 5]) (3 : Int)).1)[3]) (q := 3) rfl rfl) rfl rfl rfl ?_
    refine o_pure (p_pick_true (u := .bool (((Opt.ev ([1, 2, 3, 4, 1, 2, 5, 1, 2, 3, 4, 5]) (3 : Int)).1)[3] == 3)) rfl rfl) rfl rfl rfl ?_
    exact o_sub (Sub.cons rfl (Sub.skip rfl (Sub.skip rfl (Sub.skip rfl (Sub.skip rfl (Sub.skip rfl (Sub.skip rfl (Sub.refl _)))))))) hk
  · intro hb16 hk
    refine o_guard_no rfl 32 rfl rfl rfl rfl rfl ?_
    refine o_guard_no rfl 32 rfl rfl rfl rfl rfl ?_
    refine o_guard_no rfl 32 rfl rfl rfl rfl rfl ?_
    refine o_guard_no rfl 32 rfl rfl rfl rfl rfl ?_
    refine o_pure (p_pick_false (v := .bool false) rfl rfl) rfl rfl rfl ?_
    exact o_sub (Sub.cons rfl (Sub.skip rfl (Sub.skip rfl (Sub.skip rfl (Sub.skip rfl (Sub.skip rfl (Sub.skip rfl (Sub.refl _)))))))) hk
  refine o_pure (p_move (v := .bool (((((Opt.ev ([1, 2, 3, 4, 1, 2, 5, 1, 2, 3, 4, 5]) (3 : Int)).1).length : Int) == 12) && (((Opt.ev ([1, 2, 3, 4, 1, 2, 5, 1, 2, 3, 4, 5]) (3 : Int)).1)[3] == 3))) rfl) rfl rfl rfl ?_
  refine o_and (p := 41) 3 (((Opt.ev ([1, 2, 3, 4, 1, 2, 5, 1, 2, 3, 4, 5]) (3 : Int)).2) == 7) ?_ ?_ ?_
  · intro hb17 hk
    simp only [Bool.and_eq_true, beq_iff_eq] at hb17
    refine o_unguard 38 rfl rfl ?_
    refine o_pure (p_move (v := .int .i64 ((Opt.ev ([1, 2, 3, 4, 1, 2, 5, 1, 2, 3, 4, 5]) (3 : Int)).2)) rfl) rfl rfl rfl ?_
    refine o_unguard 38 rfl rfl ?_
    refine o_pure (p_eq (p := ((Opt.ev ([1, 2, 3, 4, 1, 2, 5, 1, 2, 3, 4, 5]) (3 : Int)).2)) (q := 7) rfl rfl) rfl rfl rfl ?_
    refine o_pure (p_pick_true (u := .bool (((Opt.ev ([1, 2, 3, 4, 1, 2, 5, 1, 2, 3, 4, 5]) (3 : Int)).2) == 7)) rfl rfl) rfl rfl rfl ?_
    exact o_sub (Sub.cons rfl (Sub.skip rfl (Sub.skip rfl (Sub.skip rfl (Sub.skip rfl (Sub.refl _)))))) hk
  · intro hb17 hk
    refine o_guard_no rfl 38 rfl rfl rfl rfl rfl ?_
    refine o_guard_no rfl 38 rfl rfl rfl rfl rfl ?_
    refine o_pure (p_pick_false (v := .bool false) rfl rfl) rfl rfl rfl ?_
    exact o_sub (Sub.cons rfl (Sub.skip rfl (Sub.skip rfl (Sub.skip rfl (Sub.skip rfl (Sub.refl _)))))) hk
  refine o_pure (p_move (v := .bool ((((((Opt.ev ([1, 2, 3, 4, 1, 2, 5, 1, 2, 3, 4, 5]) (3 : Int)).1).length : Int) == 12) && (((Opt.ev ([1, 2, 3, 4, 1, 2, 5, 1, 2, 3, 4, 5]) (3 : Int)).1)[3] == 3)) && (((Opt.ev ([1, 2, 3, 4, 1, 2, 5, 1, 2, 3, 4, 5]) (3 : Int)).2) == 7))) rfl) rfl rfl rfl ?_
  refine o_and (p := 45) 3 ((Opt.evErr ([1, 2, 3, 4, 1, 2, 5, 1, 2, 3, 4, 5]) (3 : Int)) == 0) ?_ ?_ ?_
  · intro hb18 hk
    simp only [Bool.and_eq_true, beq_iff_eq] at hb18
    refine o_unguard 42 rfl rfl ?_
    refine o_pure (p_move (v := .int .i64 (Opt.evErr ([1, 2, 3, 4, 1, 2, 5, 1, 2, 3, 4, 5]) (3 : Int))) rfl) rfl rfl rfl ?_
    refine o_unguard 42 rfl rfl ?_
    refine o_pure (p_eq (p := (Opt.evErr ([1, 2, 3, 4, 1, 2, 5, 1, 2, 3, 4, 5]) (3 : Int))) (q := 0) rfl rfl) rfl rfl rfl ?_
    refine o_pure (p_pick_true (u := .bool ((Opt.evErr ([1, 2, 3, 4, 1, 2, 5, 1, 2, 3, 4, 5]) (3 : Int)) == 0)) rfl rfl) rfl rfl rfl ?_
    exact o_sub (Sub.cons rfl (Sub.skip rfl (Sub.skip rfl (Sub.skip rfl (Sub.skip rfl (Sub.refl _)))))) hk
  · intro hb18 hk
    refine o_guard_no rfl 42 rfl rfl rfl rfl rfl ?_
    refine o_guard_no rfl 42 rfl rfl rfl rfl rfl ?_
    refine o_pure (p_pick_false (v := .bool false) rfl rfl) rfl rfl rfl ?_
    exact o_sub (Sub.cons rfl (Sub.skip rfl (Sub.skip rfl (Sub.skip rfl (Sub.skip rfl (Sub.refl _)))))) hk
  refine o_pure (p_move (v := .bool (((((((Opt.ev ([1, 2, 3, 4, 1, 2, 5, 1, 2, 3, 4, 5]) (3 : Int)).1).length : Int) == 12) && (((Opt.ev ([1, 2, 3, 4, 1, 2, 5, 1, 2, 3, 4, 5]) (3 : Int)).1)[3] == 3)) && (((Opt.ev ([1, 2, 3, 4, 1, 2, 5, 1, 2, 3, 4, 5]) (3 : Int)).2) == 7)) && ((Opt.evErr ([1, 2, 3, 4, 1, 2, 5, 1, 2, 3, 4, 5]) (3 : Int)) == 0))) rfl) rfl rfl rfl ?_
  refine o_and (p := 49) 3 ((Opt.next ([1, 2, 3, 4, 1, 2, 5, 1, 2, 3, 4, 5]) (0 : Int)) == 4) ?_ ?_ ?_
  · intro hb19 hk
    simp only [Bool.and_eq_true, beq_iff_eq] at hb19
    refine o_unguard 46 rfl rfl ?_
    refine o_pure (p_move (v := .int .i64 (Opt.next ([1, 2, 3, 4, 1, 2, 5, 1, 2, 3, 4, 5]) (0 : Int))) rfl) rfl rfl rfl ?_
    refine o_unguard 46 rfl rfl ?_
    refine o_pure (p_eq (p := (Opt.next ([1, 2, 3, 4, 1, 2, 5, 1, 2, 3, 4, 5]) (0 : Int))) (q := 4) rfl rfl) rfl rfl rfl ?_
    refine o_pure (p_pick_true (u := .bool ((Opt.next ([1, 2, 3, 4, 1, 2, 5, 1, 2, 3, 4, 5]) (0 : Int)) == 4)) rfl rfl) rfl rfl rfl ?_
    exact o_sub (Sub.cons rfl (Sub.skip rfl (Sub.skip rfl (Sub.skip rfl (Sub.skip rfl (Sub.refl _)))))) hk
  · intro hb19 hk
    refine o_guard_no rfl 46 rfl rfl rfl rfl rfl ?_
    refine o_guard_no rfl 46 rfl rfl rfl rfl rfl ?_
    refine o_pure (p_pick_false (v := .bool false) rfl rfl) rfl rfl rfl ?_
    exact o_sub (Sub.cons rfl (Sub.skip rfl (Sub.skip rfl (Sub.skip rfl (Sub.skip rfl (Sub.refl _)))))) hk
  refine o_pure (p_move (v := .bool ((((((((Opt.ev ([1, 2, 3, 4, 1, 2, 5, 1, 2, 3, 4, 5]) (3 : Int)).1).length : Int) == 12) && (((Opt.ev ([1, 2, 3, 4, 1, 2, 5, 1, 2, 3, 4, 5]) (3 : Int)).1)[3] == 3)) && (((Opt.ev ([1, 2, 3, 4, 1, 2, 5, 1, 2, 3, 4, 5]) (3 : Int)).2) == 7)) && ((Opt.evErr ([1, 2, 3, 4, 1, 2, 5, 1, 2, 3, 4, 5]) (3 : Int)) == 0)) && ((Opt.next ([1, 2, 3, 4, 1, 2, 5, 1, 2, 3, 4, 5]) (0 : Int)) == 4))) rfl) rfl rfl rfl ?_
  refine o_and (p := 53) 3 ((Opt.nextErr ([1, 2, 3, 4, 1, 2, 5, 1, 2, 3, 4, 5]) (0 : Int)) == 0) ?_ ?_ ?_
  · intro hb20 hk
    simp only [Bool.and_eq_true, beq_iff_eq] at hb20
    refine o_unguard 50 rfl rfl ?_
    refine o_pure (p_move (v := .int .i64 (Opt.nextErr ([1, 2, 3, 4, 1, 2, 5, 1, 2, 3, 4, 5]) (0 : Int))) rfl) rfl rfl rfl ?_
    refine o_unguard 50 rfl rfl ?_
    refine o_pure (p_eq (p := (Opt.nextErr ([1, 2, 3, 4, 1, 2, 5, 1, 2, 3, 4, 5]) (0 : Int))) (q := 0) rfl rfl) rfl rfl rfl ?_
    refine o_pure (p_pick_true (u := .bool ((Opt.nextErr ([1, 2, 3, 4, 1, 2, 5, 1, 2, 3, 4, 5]) (0 : Int)) == 0)) rfl rfl) rfl rfl rfl ?_
    exact o_sub (Sub.cons rfl (Sub.skip rfl (Sub.skip rfl (Sub.skip rfl (Sub.skip rfl (Sub.refl _)))))) hk
  · intro hb20 hk
    refine o_guard_no rfl 50 rfl rfl rfl rfl rfl ?_
    refine o_guard_no rfl 50 rfl rfl rfl rfl rfl ?_
    refine o_pure (p_pick_false (v := .bool false) rfl rfl) rfl rfl rfl ?_
    exact o_sub (Sub.cons rfl (Sub.skip rfl (Sub.skip rfl (Sub.skip rfl (Sub.skip rfl (Sub.refl _)))))) hk
  refine o_pure (p_move (v := .bool (((((((((Opt.ev ([1, 2, 3, 4, 1, 2, 5, 1, 2, 3, 4, 5]) (3 : Int)).1).length : Int) == 12) && (((Opt.ev ([1, 2, 3, 4, 1, 2, 5, 1, 2, 3, 4, 5]) (3 : Int)).1)[3] == 3)) && (((Opt.ev ([1, 2, 3, 4, 1, 2, 5, 1, 2, 3, 4, 5]) (3 : Int)).2) == 7)) && ((Opt.evErr ([1, 2, 3, 4, 1, 2, 5, 1, 2, 3, 4, 5]) (3 : Int)) == 0)) && ((Opt.next ([1, 2, 3, 4, 1, 2, 5, 1, 2, 3, 4, 5]) (0 : Int)) == 4)) && ((Opt.nextErr ([1, 2, 3, 4, 1, 2, 5, 1, 2, 3, 4, 5]) (0 : Int)) == 0))) rfl) rfl rfl rfl ?_
  refine o_and (p := 57) 3 ((Opt.bound (10 : Int) (4 : Int) (2 : Int)) == 17) ?_ ?_ ?_
  · intro hb21 hk
    simp only [Bool.and_eq_true, beq_iff_eq] at hb21
    refine o_unguard 54 rfl rfl ?_
    refine o_pure (p_move (v := .int .i64 (Opt.bound (10 : Int) (4 : Int) (2 : Int))) rfl) rfl rfl rfl ?_
    refine o_unguard 54 rfl rfl ?_
    refine o_pure (p_eq (p := (Opt.bound (10 : Int) (4 : Int) (2 : Int))) (q := 17) rfl rfl) rfl rfl rfl ?_
    refine o_pure (p_pick_true (u := .bool ((Opt.bound (10 : Int) (4 : Int) (2 : Int)) == 17)) rfl rfl) rfl rfl rfl ?_
    exact o_sub (Sub.cons rfl (Sub.skip rfl (Sub.skip rfl (Sub.skip rfl (Sub.skip rfl (Sub.refl _)))))) hk
  · intro hb21 hk
    refine o_guard_no rfl 54 rfl rfl rfl rfl rfl ?_
    refine o_guard_no rfl 54 rfl rfl rfl rfl rfl ?_
    refine o_pure (p_pick_false (v := .bool false) rfl rfl) rfl rfl rfl ?_
    exact o_sub (Sub.cons rfl (Sub.skip rfl (Sub.skip rfl (Sub.skip rfl (Sub.skip rfl (Sub.refl _)))))) hk
  refine o_pure (p_move (v := .bool ((((((((((Opt.ev ([1, 2, 3, 4, 1, 2, 5, 1, 2, 3, 4, 5]) (3 : Int)).1).length : Int) == 12) && (((Opt.ev ([1, 2, 3, 4, 1, 2, 5, 1, 2, 3, 4, 5]) (3 : Int)).1)[3] == 3)) && (((Opt.ev ([1, 2, 3, 4, 1, 2, 5, 1, 2, 3, 4, 5]) (3 : Int)).2) == 7)) && ((Opt.evErr ([1, 2, 3, 4, 1, 2, 5, 1, 2, 3, 4, 5]) (3 : Int)) == 0)) && ((Opt.next ([1, 2, 3, 4, 1, 2, 5, 1, 2, 3, 4, 5]) (0 : Int)) == 4)) && ((Opt.nextErr ([1, 2, 3, 4, 1, 2, 5, 1, 2, 3, 4, 5]) (0 : Int)) == 0)) && ((Opt.bound (10 : Int) (4 : Int) (2 : Int)) == 17))) rfl) rfl rfl rfl ?_
  refine o_and (p := 61) 3 ((Opt.boundErr (10 : Int) (4 : Int) (2 : Int)) == 0) ?_ ?_ ?_
  · intro hb22 hk
    simp only [Bool.and_eq_true, beq_iff_eq] at hb22
    refine o_unguard 58 rfl rfl ?_
    refine o_pure (p_move (v := .int .i64 (Opt.boundErr (10 : Int) (4 : Int) (2 : Int))) rfl) rfl rfl rfl ?_
    refine o_unguard 58 rfl rfl ?_
    refine o_pure (p_eq (p := (Opt.boundErr (10 : Int) (4 : Int) (2 : Int))) (q := 0) rfl rfl) rfl rfl rfl ?_
    refine o_pure (p_pick_true (u := .bool ((Opt.boundErr (10 : Int) (4 : Int) (2 : Int)) == 0)) rfl rfl) rfl rfl rfl ?_
    exact o_sub (Sub.cons rfl (Sub.skip rfl (Sub.skip rfl (Sub.skip rfl (Sub.skip rfl (Sub.refl _)))))) hk
  · intro hb22 hk
    refine o_guard_no rfl 58 rfl rfl rfl rfl rfl ?_
    refine o_guard_no rfl 58 rfl rfl rfl rfl rfl ?_
    refine o_pure (p_pick_false (v := .bool false) rfl rfl) rfl rfl rfl ?_
    exact o_sub (Sub.cons rfl (Sub.skip rfl (Sub.skip rfl (Sub.skip rfl (Sub.skip rfl (Sub.refl _)))))) hk
  refine o_pure (p_move (v := .bool (((((((((((Opt.ev ([1, 2, 3, 4, 1, 2, 5, 1, 2, 3, 4, 5]) (3 : Int)).1).length : Int) == 12) && (((Opt.ev ([1, 2, 3, 4, 1, 2, 5, 1, 2, 3, 4, 5]) (3 : Int)).1)[3] == 3)) && (((Opt.ev ([1, 2, 3, 4, 1, 2, 5, 1, 2, 3, 4, 5]) (3 : Int)).2) == 7)) && ((Opt.evErr ([1, 2, 3, 4, 1, 2, 5, 1, 2, 3, 4, 5]) (3 : Int)) == 0)) && ((Opt.next ([1, 2, 3, 4, 1, 2, 5, 1, 2, 3, 4, 5]) (0 : Int)) == 4)) && ((Opt.nextErr ([1, 2, 3, 4, 1, 2, 5, 1, 2, 3, 4, 5]) (0 : Int)) == 0)) && ((Opt.bound (10 : Int) (4 : Int) (2 : Int)) == 17)) && ((Opt.boundErr (10 : Int) (4 : Int) (2 : Int)) == 0))) rfl) rfl rfl rfl ?_
  refine o_and (p := 65) 3 ((Opt.boundErr (1 : Int) (1 : Int) (2 : Int)) == 4) ?_ ?_ ?_
  · intro hb23 hk
    simp only [Bool.and_eq_true, beq_iff_eq] at hb23
    refine o_unguard 62 rfl rfl ?_
    refine o_pure (p_move (v := .int .i64 (Opt.boundErr (1 : Int) (1 : Int) (2 : Int))) rfl) rfl rfl rfl ?_
    refine o_unguard 62 rfl rfl ?_
    refine o_pure (p_eq (p := (Opt.boundErr (1 : Int) (1 : Int) (2 : Int))) (q := 4) rfl rfl) rfl rfl rfl ?_
    refine o_pure (p_pick_true (u := .bool ((Opt.boundErr (1 : Int) (1 : Int) (2 : Int)) == 4)) rfl rfl) rfl rfl rfl ?_
    exact o_sub (Sub.cons rfl (Sub.skip rfl (Sub.skip rfl (Sub.skip rfl (Sub.skip rfl (Sub.refl _)))))) hk
  · intro hb23 hk
    refine o_guard_no rfl 62 rfl rfl rfl rfl rfl ?_
    refine o_guard_no rfl 62 rfl rfl rfl rfl rfl ?_
    refine o_pure (p_pick_false (v := .bool false) rfl rfl) rfl rfl rfl ?_
    exact o_sub (Sub.cons rfl (Sub.skip rfl (Sub.skip rfl (Sub.skip rfl (Sub.skip rfl (Sub.refl _)))))) hk
  refine o_pure (p_assign (v := .bool ((((((((((((Opt.ev ([1, 2, 3, 4, 1, 2, 5, 1, 2, 3, 4, 5]) (3 : Int)).1).length : Int) == 12) && (((Opt.ev ([1, 2, 3, 4, 1, 2, 5, 1, 2, 3, 4, 5]) (3 : Int)).1)[3] == 3)) && (((Opt.ev ([1, 2, 3, 4, 1, 2, 5, 1, 2, 3, 4, 5]) (3 : Int)).2) == 7)) && ((Opt.evErr ([1, 2, 3, 4, 1, 2, 5, 1, 2, 3, 4, 5]) (3 : Int)) == 0)) && ((Opt.next ([1, 2, 3, 4, 1, 2, 5, 1, 2, 3, 4, 5]) (0 : Int)) == 4)) && ((Opt.nextErr ([1, 2, 3, 4, 1, 2, 5, 1, 2, 3, 4, 5]) (0 : Int)) == 0)) && ((Opt.bound (10 : Int) (4 : Int) (2 : Int)) == 17)) && ((Opt.boundErr (10 : Int) (4 : Int) (2 : Int)) == 0)) && ((Opt.boundErr (1 : Int) (1 : Int) (2 : Int)) == 4))) rfl) rfl rfl rfl ?_
  refine o_nil ?_
  refine q_then ?_
  refine c_ret ?_
  have hr0 : (((((((((((((Opt.ev ([1, 2, 3, 4, 1, 2, 5, 1, 2, 3, 4, 5]) (3 : Int)).1).length : Int) == 12) && (((Opt.ev ([1, 2, 3, 4, 1, 2, 5, 1, 2, 3, 4, 5]) (3 : Int)).1)[3] == 3)) && (((Opt.ev ([1, 2, 3, 4, 1, 2, 5, 1, 2, 3, 4, 5]) (3 : Int)).2) == 7)) && ((Opt.evErr ([1, 2, 3, 4, 1, 2, 5, 1, 2, 3, 4, 5]) (3 : Int)) == 0)) && ((Opt.next ([1, 2, 3, 4, 1, 2, 5, 1, 2, 3, 4, 5]) (0 : Int)) == 4)) && ((Opt.nextErr ([1, 2, 3, 4, 1, 2, 5, 1, 2, 3, 4, 5]) (0 : Int)) == 0)) && ((Opt.bound (10 : Int) (4 : Int) (2 : Int)) == 17)) && ((Opt.boundErr (10 : Int) (4 : Int) (2 : Int)) == 0)) && ((Opt.boundErr (1 : Int) (1 : Int) (2 : Int)) == 4)) : Bool) = true := by
    first | rfl | decide +kernel
  refine q_end0 (v := .bool ((((((((((((Opt.ev ([1, 2, 3, 4, 1, 2, 5, 1, 2, 3, 4, 5]) (3 : Int)).1).length : Int) == 12) && (((Opt.ev ([1, 2, 3, 4, 1, 2, 5, 1, 2, 3, 4, 5]) (3 : Int)).1)[3] == 3)) && (((Opt.ev ([1, 2, 3, 4, 1, 2, 5, 1, 2, 3, 4, 5]) (3 : Int)).2) == 7)) && ((Opt.evErr ([1, 2, 3, 4, 1, 2, 5, 1, 2, 3, 4, 5]) (3 : Int)) == 0)) && ((Opt.next ([1, 2, 3, 4, 1, 2, 5, 1, 2, 3, 4, 5]) (0 : Int)) == 4)) && ((Opt.nextErr ([1, 2, 3, 4, 1, 2, 5, 1, 2, 3, 4, 5]) (0 : Int)) == 0)) && ((Opt.bound (10 : Int) (4 : Int) (2 : Int)) == 17)) && ((Opt.boundErr (10 : Int) (4 : Int) (2 : Int)) == 0)) && ((Opt.boundErr (1 : Int) (1 : Int) (2 : Int)) == 4))) (rt1 rfl (r_tmp rfl)) (i := 3) rfl ?_
  exact (by have hcc := congrArg (fun (y0 : Bool) => (.bool y0 : Value)) hr0; exact hcc)
end Go.Proofs.Ytgjdmnljnimamaa
