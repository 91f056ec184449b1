/- The walks, printed by a program from the translation and a specification. -/
import Derived.Test.YtgjdmnljnimamaaOpF
import Derived.Test.YtgjdmnljnimamaaOpLaw2
import Derived.Test.YtgjdmnljnimamaaOpW8
import Derived.Test.YtgjdmnljnimamaaObW1
import Derived.Test.YtgjdmnljnimamaaObW3
namespace Go.Proofs.Ytgjdmnljnimamaa
open Go.Sx Go.RowKit
set_option maxHeartbeats 8000000 in
set_option maxRecDepth 100000 in
theorem optimalBeats_ok (l : List Int) (al : Option Addr) (cl : Nat) (room : Int) : Fn0 Try.prog 14 [.slice al l.length cl, .int .i64 room] (fun w => Rd tInt w al cl l) (.bool true) := by
  refine fn0 (nt := 88) (F0 := [(0, .slice al l.length cl), (1, .int .i64 room)]) Try.func14 rfl Try.ntmps14 rfl rfl (fun w0 hpre => ?_)
  have hl := hpre
  have hlhl := hl.2.1
  refine c_seq ?_
  refine c_region ?_
  refine o_pure (p_assign (v := .bool false) rfl) rfl rfl rfl ?_
  refine o_nil ?_
  refine q_then ?_
  refine c_seq ?_
  refine c_region ?_
  refine o_pure (p_move (v := .slice al l.length cl) rfl) rfl rfl rfl ?_
  refine o_pure (p_move (v := .int .i64 room) rfl) rfl rfl rfl ?_
  refine o_callM rfl (oevict_ok l al cl room) hf38 (fun w hw => (rd_base (i := 0) rfl hl) w hw) rfl (fun _ _ _ _ ha hA => SlO.agree ha hA) ?_
  rintro ⟨a3, c4⟩ S1
  refine o_know (fun w hw => own_len (i := 0) (T := tInt) hw rfl) (fun hlr5 => ?_)
  refine o_pure (p_move (v := .tuple #[.slice a3 ((Opt.ev l room).1).length c4, .int .i64 ((Opt.ev l room).2), .int .i64 (Opt.evErr l room)]) rfl) rfl rfl rfl ?_
  refine o_pure (p_extract (vs := [.slice a3 ((Opt.ev l room).1).length c4, .int .i64 ((Opt.ev l room).2), .int .i64 (Opt.evErr l room)]) (v := .slice a3 ((Opt.ev l room).1).length c4) rfl rfl) rfl rfl rfl ?_
  refine o_pure (p_extract (vs := [.slice a3 ((Opt.ev l room).1).length c4, .int .i64 ((Opt.ev l room).2), .int .i64 (Opt.evErr l room)]) (v := .int .i64 ((Opt.ev l room).2)) rfl rfl) rfl rfl rfl ?_
  refine o_pure (p_extract (vs := [.slice a3 ((Opt.ev l room).1).length c4, .int .i64 ((Opt.ev l room).2), .int .i64 (Opt.evErr l room)]) (v := .int .i64 (Opt.evErr l room)) rfl rfl) rfl rfl rfl ?_
  refine o_pure (p_assign (v := .slice a3 ((Opt.ev l room).1).length c4) rfl) rfl rfl rfl ?_
  refine o_pure (p_assign (v := .int .i64 ((Opt.ev l room).2)) rfl) rfl rfl rfl ?_
  refine o_pure (p_assign (v := .int .i64 (Opt.evErr l room)) rfl) rfl rfl rfl ?_
  refine o_nil ?_
  refine q_then ?_
  refine c_seq ?_
  refine c_region ?_
  refine o_pure (p_move (v := .int .i64 room) rfl) rfl rfl rfl ?_
  refine o_pure (p_build (cells := [.int .i64 room, .slice none 0 0]) fp48 ze48 rfl rfl) rfl rfl rfl ?_
  refine o_pure (p_move (v := .slice al l.length cl) rfl) rfl rfl rfl ?_
  refine o_callM rfl (lrun_ok (⟨room, []⟩ : DCache) none 0 l al cl) hf37 (fun w hw => ⟨rd_nil w hw, (rd_base (i := 1) rfl hl) w hw⟩) rfl (fun _ _ _ _ ha hA => SlO.agree ha hA) ?_
  rintro ⟨a8, c9⟩ S6
  refine o_know (fun w hw => own_len (i := 0) (T := tInt) hw rfl) (fun hlr10 => ?_)
  refine o_pure (p_move (v := .tuple #[.agg #[.int .i64 (((Lru.run (⟨room, []⟩ : DCache) l).1).room), .slice a8 (((Lru.run (⟨room, []⟩ : DCache) l).1).keys).length c9], .int .i64 ((Lru.run (⟨room, []⟩ : DCache) l).2), .int .i64 (Lru.runErr (⟨room, []⟩ : DCache) l)]) rfl) rfl rfl rfl ?_
  refine o_pure (p_extract (vs := [.agg #[.int .i64 (((Lru.run (⟨room, []⟩ : DCache) l).1).room), .slice a8 (((Lru.run (⟨room, []⟩ : DCache) l).1).keys).length c9], .int .i64 ((Lru.run (⟨room, []⟩ : DCache) l).2), .int .i64 (Lru.runErr (⟨room, []⟩ : DCache) l)]) (v := .agg #[.int .i64 (((Lru.run (⟨room, []⟩ : DCache) l).1).room), .slice a8 (((Lru.run (⟨room, []⟩ : DCache) l).1).keys).length c9]) rfl rfl) rfl rfl rfl ?_
  refine o_pure (p_extract (vs := [.agg #[.int .i64 (((Lru.run (⟨room, []⟩ : DCache) l).1).room), .slice a8 (((Lru.run (⟨room, []⟩ : DCache) l).1).keys).length c9], .int .i64 ((Lru.run (⟨room, []⟩ : DCache) l).2), .int .i64 (Lru.runErr (⟨room, []⟩ : DCache) l)]) (v := .int .i64 ((Lru.run (⟨room, []⟩ : DCache) l).2)) rfl rfl) rfl rfl rfl ?_
  refine o_pure (p_extract (vs := [.agg #[.int .i64 (((Lru.run (⟨room, []⟩ : DCache) l).1).room), .slice a8 (((Lru.run (⟨room, []⟩ : DCache) l).1).keys).length c9], .int .i64 ((Lru.run (⟨room, []⟩ : DCache) l).2), .int .i64 (Lru.runErr (⟨room, []⟩ : DCache) l)]) (v := .int .i64 (Lru.runErr (⟨room, []⟩ : DCache) l)) rfl rfl) rfl rfl rfl ?_
  refine o_alloc ze48 rfl (fun B11 => ?_)
  refine o_storeN (i := 0) (vs := [.int .i64 (((Lru.run (⟨room, []⟩ : DCache) l).1).room), .slice a8 (((Lru.run (⟨room, []⟩ : DCache) l).1).keys).length c9]) (cs' := [.int .i64 (((Lru.run (⟨room, []⟩ : DCache) l).1).room), .slice a8 (((Lru.run (⟨room, []⟩ : DCache) l).1).keys).length c9]) rfl rfl rfl sz48 rfl rfl rfl rfl ?_
  refine o_pure (p_assign (v := .int .i64 ((Lru.run (⟨room, []⟩ : DCache) l).2)) rfl) rfl rfl rfl ?_
  refine o_pure (p_assign (v := .int .i64 (Lru.runErr (⟨room, []⟩ : DCache) l)) rfl) rfl rfl rfl ?_
  refine o_nil ?_
  refine q_then ?_
  refine c_seq ?_
  refine c_region ?_
  refine o_pure (p_move (v := .int .i64 room) rfl) rfl rfl rfl ?_
  refine o_pure (p_build (cells := [.int .i64 room, .int .i64 0, .slice none 0 0]) fp74 ze74 rfl rfl) rfl rfl rfl ?_
  refine o_pure (p_move (v := .slice al l.length cl) rfl) rfl rfl rfl ?_
  refine o_callM rfl (run_ok (⟨room, 0, []⟩ : DClock) none 0 l al cl) hf45 (fun w hw => ⟨rd_nil w hw, (rd_base (i := 3) rfl hl) w hw⟩) rfl (fun _ _ _ _ ha hA => SlO.agree ha hA) ?_
  rintro ⟨a14, c15⟩ S12
  refine o_know (fun w hw => own_len (i := 0) (T := tFrame) hw rfl) (fun hlr16 => ?_)
  refine o_pure (p_move (v := .tuple #[.agg #[.int .i64 (((Clock.run (⟨room, 0, []⟩ : DClock) l).1).room), .int .i64 (((Clock.run (⟨room, 0, []⟩ : DClock) l).1).hand), .slice a14 (((Clock.run (⟨room, 0, []⟩ : DClock) l).1).frames).length c15], .int .i64 ((Clock.run (⟨room, 0, []⟩ : DClock) l).2), .int .i64 (Clock.runErr (⟨room, 0, []⟩ : DClock) l)]) rfl) rfl rfl rfl ?_
  refine o_pure (p_extract (vs := [.agg #[.int .i64 (((Clock.run (⟨room, 0, []⟩ : DClock) l).1).room), .int .i64 (((Clock.run (⟨room, 0, []⟩ : DClock) l).1).hand), .slice a14 (((Clock.run (⟨room, 0, []⟩ : DClock) l).1).frames).length c15], .int .i64 ((Clock.run (⟨room, 0, []⟩ : DClock) l).2), .int .i64 (Clock.runErr (⟨room, 0, []⟩ : DClock) l)]) (v := .agg #[.int .i64 (((Clock.run (⟨room, 0, []⟩ : DClock) l).1).room), .int .i64 (((Clock.run (⟨room, 0, []⟩ : DClock) l).1).hand), .slice a14 (((Clock.run (⟨room, 0, []⟩ : DClock) l).1).frames).length c15]) rfl rfl) rfl rfl rfl ?_
  refine o_pure (p_extract (vs := [.agg #[.int .i64 (((Clock.run (⟨room, 0, []⟩ : DClock) l).1).room), .int .i64 (((Clock.run (⟨room, 0, []⟩ : DClock) l).1).hand), .slice a14 (((Clock.run (⟨room, 0, []⟩ : DClock) l).1).frames).length c15], .int .i64 ((Clock.run (⟨room, 0, []⟩ : DClock) l).2), .int .i64 (Clock.runErr (⟨room, 0, []⟩ : DClock) l)]) (v := .int .i64 ((Clock.run (⟨room, 0, []⟩ : DClock) l).2)) rfl rfl) rfl rfl rfl ?_
  refine o_pure (p_extract (vs := [.agg #[.int .i64 (((Clock.run (⟨room, 0, []⟩ : DClock) l).1).room), .int .i64 (((Clock.run (⟨room, 0, []⟩ : DClock) l).1).hand), .slice a14 (((Clock.run (⟨room, 0, []⟩ : DClock) l).1).frames).length c15], .int .i64 ((Clock.run (⟨room, 0, []⟩ : DClock) l).2), .int .i64 (Clock.runErr (⟨room, 0, []⟩ : DClock) l)]) (v := .int .i64 (Clock.runErr (⟨room, 0, []⟩ : DClock) l)) rfl rfl) rfl rfl rfl ?_
  refine o_alloc ze74 rfl (fun B17 => ?_)
  refine o_storeN (i := 0) (vs := [.int .i64 (((Clock.run (⟨room, 0, []⟩ : DClock) l).1).room), .int .i64 (((Clock.run (⟨room, 0, []⟩ : DClock) l).1).hand), .slice a14 (((Clock.run (⟨room, 0, []⟩ : DClock) l).1).frames).length c15]) (cs' := [.int .i64 (((Clock.run (⟨room, 0, []⟩ : DClock) l).1).room), .int .i64 (((Clock.run (⟨room, 0, []⟩ : DClock) l).1).hand), .slice a14 (((Clock.run (⟨room, 0, []⟩ : DClock) l).1).frames).length c15]) rfl rfl rfl sz74 rfl rfl rfl rfl ?_
  refine o_pure (p_assign (v := .int .i64 ((Clock.run (⟨room, 0, []⟩ : DClock) l).2)) rfl) rfl rfl rfl ?_
  refine o_pure (p_assign (v := .int .i64 (Clock.runErr (⟨room, 0, []⟩ : DClock) l)) rfl) rfl rfl rfl ?_
  refine o_nil ?_
  refine q_then ?_
  refine c_seq ?_
  refine c_region ?_
  refine o_pure (p_move (v := .int .i64 room) rfl) rfl rfl rfl ?_
  refine o_pure (p_build (cells := [.int .i64 room, .slice none 0 0]) fp79 ze79 rfl rfl) rfl rfl rfl ?_
  refine o_pure (p_move (v := .slice al l.length cl) rfl) rfl rfl rfl ?_
  refine o_callM rfl (frun_ok (⟨room, []⟩ : DUses) none 0 l al cl) hf46 (fun w hw => ⟨rd_nil w hw, (rd_base (i := 5) rfl hl) w hw⟩) rfl (fun _ _ _ _ ha hA => SlO.agree ha hA) ?_
  rintro ⟨a20, c21⟩ S18
  refine o_know (fun w hw => own_len (i := 0) (T := tUse) hw rfl) (fun hlr22 => ?_)
  refine o_pure (p_move (v := .tuple #[.agg #[.int .i64 (((Lfu.run (⟨room, []⟩ : DUses) l).1).room), .slice a20 (((Lfu.run (⟨room, []⟩ : DUses) l).1).list).length c21], .int .i64 ((Lfu.run (⟨room, []⟩ : DUses) l).2), .int .i64 (Lfu.runErr (⟨room, []⟩ : DUses) l)]) rfl) rfl rfl rfl ?_
  refine o_pure (p_extract (vs := [.agg #[.int .i64 (((Lfu.run (⟨room, []⟩ : DUses) l).1).room), .slice a20 (((Lfu.run (⟨room, []⟩ : DUses) l).1).list).length c21], .int .i64 ((Lfu.run (⟨room, []⟩ : DUses) l).2), .int .i64 (Lfu.runErr (⟨room, []⟩ : DUses) l)]) (v := .agg #[.int .i64 (((Lfu.run (⟨room, []⟩ : DUses) l).1).room), .slice a20 (((Lfu.run (⟨room, []⟩ : DUses) l).1).list).length c21]) rfl rfl) rfl rfl rfl ?_
  refine o_pure (p_extract (vs := [.agg #[.int .i64 (((Lfu.run (⟨room, []⟩ : DUses) l).1).room), .slice a20 (((Lfu.run (⟨room, []⟩ : DUses) l).1).list).length c21], .int .i64 ((Lfu.run (⟨room, []⟩ : DUses) l).2), .int .i64 (Lfu.runErr (⟨room, []⟩ : DUses) l)]) (v := .int .i64 ((Lfu.run (⟨room, []⟩ : DUses) l).2)) rfl rfl) rfl rfl rfl ?_
  refine o_pure (p_extract (vs := [.agg #[.int .i64 (((Lfu.run (⟨room, []⟩ : DUses) l).1).room), .slice a20 (((Lfu.run (⟨room, []⟩ : DUses) l).1).list).length c21], .int .i64 ((Lfu.run (⟨room, []⟩ : DUses) l).2), .int .i64 (Lfu.runErr (⟨room, []⟩ : DUses) l)]) (v := .int .i64 (Lfu.runErr (⟨room, []⟩ : DUses) l)) rfl rfl) rfl rfl rfl ?_
  refine o_alloc ze79 rfl (fun B23 => ?_)
  refine o_storeN (i := 0) (vs := [.int .i64 (((Lfu.run (⟨room, []⟩ : DUses) l).1).room), .slice a20 (((Lfu.run (⟨room, []⟩ : DUses) l).1).list).length c21]) (cs' := [.int .i64 (((Lfu.run (⟨room, []⟩ : DUses) l).1).room), .slice a20 (((Lfu.run (⟨room, []⟩ : DUses) l).1).list).length c21]) rfl rfl rfl sz79 rfl rfl rfl rfl ?_
  refine o_pure (p_assign (v := .int .i64 ((Lfu.run (⟨room, []⟩ : DUses) l).2)) rfl) rfl rfl rfl ?_
  refine o_pure (p_assign (v := .int .i64 (Lfu.runErr (⟨room, []⟩ : DUses) l)) rfl) rfl rfl rfl ?_
  refine o_nil ?_
  refine q_then ?_
  refine c_seq ?_
  refine c_seq ?_
  refine c_region ?_
  refine o_call0 (v := .bool true) rfl (bestBegun_ok ) hf43 (fun _ _ => trivial) rfl ?_
  refine o_pure (p_not (b := true) rfl) rfl rfl rfl ?_
  refine o_nil ?_
  refine q_then ?_
  refine c_false rfl ?_
  refine c_skip ?_
  refine q_then ?_
  refine c_seq ?_
  refine c_seq ?_
  refine c_region ?_
  refine o_pure (p_move (v := .int .i64 (Opt.evErr l room)) rfl) rfl rfl rfl ?_
  refine o_pure (p_ne (p := (Opt.evErr l room)) (q := 0) rfl rfl) rfl rfl rfl ?_
  refine o_pure (p_move (v := .bool ((Opt.evErr l room) != 0)) rfl) rfl rfl rfl ?_
  refine o_or (p := 55) 3 ((Lru.runErr (⟨room, []⟩ : DCache) l) != 0) ?_ ?_ ?_
  · intro hb24 hk
    simp only [bne_eq_false_iff_eq] at hb24
    refine o_unguard 52 rfl rfl ?_
    refine o_pure (p_move (v := .int .i64 (Lru.runErr (⟨room, []⟩ : DCache) l)) rfl) rfl rfl rfl ?_
    refine o_unguard 52 rfl rfl ?_
    refine o_pure (p_ne (p := (Lru.runErr (⟨room, []⟩ : DCache) l)) (q := 0) rfl rfl) rfl rfl rfl ?_
    refine o_pure (p_pick_false (v := .bool ((Lru.runErr (⟨room, []⟩ : DCache) l) != 0)) rfl rfl) rfl rfl rfl ?_
    exact o_sub (Sub.cons rfl (Sub.skip rfl (Sub.skip rfl (Sub.skip rfl (Sub.skip rfl (Sub.refl _)))))) hk
  · intro hb24 hk
    refine o_guard_no rfl 52 rfl rfl rfl rfl rfl ?_
    refine o_guard_no rfl 52 rfl rfl rfl rfl rfl ?_
    refine o_pure (p_pick_true (u := .bool true) rfl rfl) rfl rfl rfl ?_
    exact o_sub (Sub.cons rfl (Sub.skip rfl (Sub.skip rfl (Sub.skip rfl (Sub.skip rfl (Sub.refl _)))))) hk
  refine o_pure (p_move (v := .bool (((Opt.evErr l room) != 0) || ((Lru.runErr (⟨room, []⟩ : DCache) l) != 0))) rfl) rfl rfl rfl ?_
  refine o_or (p := 59) 3 ((Clock.runErr (⟨room, 0, []⟩ : DClock) l) != 0) ?_ ?_ ?_
  · intro hb25 hk
    simp only [Bool.or_eq_false_iff, bne_eq_false_iff_eq] at hb25
    refine o_unguard 56 rfl rfl ?_
    refine o_pure (p_move (v := .int .i64 (Clock.runErr (⟨room, 0, []⟩ : DClock) l)) rfl) rfl rfl rfl ?_
    refine o_unguard 56 rfl rfl ?_
    refine o_pure (p_ne (p := (Clock.runErr (⟨room, 0, []⟩ : DClock) l)) (q := 0) rfl rfl) rfl rfl rfl ?_
    refine o_pure (p_pick_false (v := .bool ((Clock.runErr (⟨room, 0, []⟩ : DClock) l) != 0)) rfl rfl) rfl rfl rfl ?_
    exact o_sub (Sub.cons rfl (Sub.skip rfl (Sub.skip rfl (Sub.skip rfl (Sub.skip rfl (Sub.refl _)))))) hk
  · intro hb25 hk
    refine o_guard_no rfl 56 rfl rfl rfl rfl rfl ?_
    refine o_guard_no rfl 56 rfl rfl rfl rfl rfl ?_
    refine o_pure (p_pick_true (u := .bool true) rfl rfl) rfl rfl rfl ?_
    exact o_sub (Sub.cons rfl (Sub.skip rfl (Sub.skip rfl (Sub.skip rfl (Sub.skip rfl (Sub.refl _)))))) hk
  refine o_pure (p_move (v := .bool ((((Opt.evErr l room) != 0) || ((Lru.runErr (⟨room, []⟩ : DCache) l) != 0)) || ((Clock.runErr (⟨room, 0, []⟩ : DClock) l) != 0))) rfl) rfl rfl rfl ?_
  refine o_or (p := 63) 3 ((Lfu.runErr (⟨room, []⟩ : DUses) l) != 0) ?_ ?_ ?_
  · intro hb26 hk
    simp only [Bool.or_eq_false_iff, bne_eq_false_iff_eq] at hb26
    refine o_unguard 60 rfl rfl ?_
    refine o_pure (p_move (v := .int .i64 (Lfu.runErr (⟨room, []⟩ : DUses) l)) rfl) rfl rfl rfl ?_
    refine o_unguard 60 rfl rfl ?_
    refine o_pure (p_ne (p := (Lfu.runErr (⟨room, []⟩ : DUses) l)) (q := 0) rfl rfl) rfl rfl rfl ?_
    refine o_pure (p_pick_false (v := .bool ((Lfu.runErr (⟨room, []⟩ : DUses) l) != 0)) rfl rfl) rfl rfl rfl ?_
    exact o_sub (Sub.cons rfl (Sub.skip rfl (Sub.skip rfl (Sub.skip rfl (Sub.skip rfl (Sub.refl _)))))) hk
  · intro hb26 hk
    refine o_guard_no rfl 60 rfl rfl rfl rfl rfl ?_
    refine o_guard_no rfl 60 rfl rfl rfl rfl rfl ?_
    refine o_pure (p_pick_true (u := .bool true) rfl rfl) rfl rfl rfl ?_
    exact o_sub (Sub.cons rfl (Sub.skip rfl (Sub.skip rfl (Sub.skip rfl (Sub.skip rfl (Sub.refl _)))))) hk
  refine o_nil ?_
  refine q_then ?_
  refine c_cond (b := (((((Opt.evErr l room) != 0) || ((Lru.runErr (⟨room, []⟩ : DCache) l) != 0)) || ((Clock.runErr (⟨room, 0, []⟩ : DClock) l) != 0)) || ((Lfu.runErr (⟨room, []⟩ : DUses) l) != 0))) rfl (fun hc27 => ?_) (fun hc27 => ?_)
  · simp only [Bool.or_eq_true, bne_iff_ne, ne_eq] at hc27
    have hz := Opt.beats_bad hc27
    refine c_seq ?_
    refine c_region ?_
    refine o_pure (p_move (v := .int .i64 ((Opt.ev l room).2)) rfl) rfl rfl rfl ?_
    refine o_pure (p_eq (p := ((Opt.ev l room).2)) (q := 0) rfl rfl) rfl rfl rfl ?_
    refine o_pure (p_assign (v := .bool (((Opt.ev l room).2) == 0)) rfl) rfl rfl rfl ?_
    refine o_nil ?_
    refine q_then ?_
    refine c_ret ?_
    refine q_then_ret ?_
    have hr0 : ((((Opt.ev l room).2) == 0) : Bool) = true := by
      first | rfl | (rw [hz]; rfl) | (simp only [Bool.and_eq_true, decide_eq_true_eq]; exact ⟨⟨q1, q2⟩, q3⟩)
    refine q_end0 (v := .bool (((Opt.ev l room).2) == 0)) (rt1 rfl (r_tmp rfl)) (i := 7) rfl ?_
    exact (by have hcc := congrArg (fun (y0 : Bool) => (.bool y0 : Value)) hr0; exact hcc)
  · simp only [Bool.or_eq_false_iff, bne_eq_false_iff_eq] at hc27
    have hall := hc27
    obtain ⟨⟨⟨z1, z2⟩, z3⟩, z4⟩ := hall
    have q1 := Opt.beats_lru z1 z2
    have q2 := Opt.beats_ck z1 z3
    have q3 := Opt.beats_lfu z1 z4
    obtain ⟨b1, b2, b3, b4⟩ := Opt.beats_bd z1 z2 z3 z4
    refine c_skip ?_
    refine q_then ?_
    refine c_seq ?_
    refine c_region ?_
    refine o_pure (p_move (v := .int .i64 ((Opt.ev l room).2)) rfl) rfl rfl rfl ?_
    refine o_pure (p_move (v := .slice al l.length cl) rfl) rfl rfl rfl ?_
    refine o_pure (p_len_slice (len := l.length) rfl rfl Try.underlying23) rfl rfl rfl ?_
    refine o_pure (p_move (v := .int .i64 ((Lru.run (⟨room, []⟩ : DCache) l).2)) rfl) rfl rfl rfl ?_
    refine o_pure (p_subb (p := (l.length : Int)) (q := ((Lru.run (⟨room, []⟩ : DCache) l).2)) rfl rfl (by omega)) rfl rfl rfl ?_
    refine o_pure (p_le (p := ((Opt.ev l room).2)) (q := ((l.length : Int) - ((Lru.run (⟨room, []⟩ : DCache) l).2))) rfl rfl) rfl rfl rfl ?_
    refine o_pure (p_move (v := .bool (decide (((Opt.ev l room).2) ≤ ((l.length : Int) - ((Lru.run (⟨room, []⟩ : DCache) l).2))))) rfl) rfl rfl rfl ?_
    refine o_and (p := 79) 7 (decide (((Opt.ev l room).2) ≤ ((l.length : Int) - ((Clock.run (⟨room, 0, []⟩ : DClock) l).2)))) ?_ ?_ ?_
    · intro hb28 hk
      simp only [decide_eq_true_eq] at hb28
      refine o_unguard 72 rfl rfl ?_
      refine o_pure (p_move (v := .int .i64 ((Opt.ev l room).2)) rfl) rfl rfl rfl ?_
      refine o_unguard 72 rfl rfl ?_
      refine o_pure (p_move (v := .slice al l.length cl) rfl) rfl rfl rfl ?_
      refine o_unguard 72 rfl rfl ?_
      refine o_pure (p_len_slice (len := l.length) rfl rfl Try.underlying23) rfl rfl rfl ?_
      refine o_unguard 72 rfl rfl ?_
      refine o_pure (p_move (v := .int .i64 ((Clock.run (⟨room, 0, []⟩ : DClock) l).2)) rfl) rfl rfl rfl ?_
      refine o_unguard 72 rfl rfl ?_
      refine o_pure (p_subb (p := (l.length : Int)) (q := ((Clock.run (⟨room, 0, []⟩ : DClock) l).2)) rfl rfl (by omega)) rfl rfl rfl ?_
      refine o_unguard 72 rfl rfl ?_
      refine o_pure (p_le (p := ((Opt.ev l room).2)) (q := ((l.length : Int) - ((Clock.run (⟨room, 0, []⟩ : DClock) l).2))) rfl rfl) rfl rfl rfl ?_
      refine o_pure (p_pick_true (u := .bool (decide (((Opt.ev l room).2) ≤ ((l.length : Int) - ((Clock.run (⟨room, 0, []⟩ : DClock) l).2))))) rfl rfl) rfl rfl rfl ?_
      exact o_sub (Sub.cons rfl (Sub.skip rfl (Sub.skip rfl (Sub.skip rfl (Sub.skip rfl (Sub.skip rfl (Sub.skip rfl (Sub.skip rfl (Sub.skip rfl (Sub.refl _)))))))))) hk
    · intro hb28 hk
      refine o_guard_no rfl 72 rfl rfl rfl rfl rfl ?_
      refine o_guard_no rfl 72 rfl rfl rfl rfl rfl ?_
      refine o_guard_no rfl 72 rfl rfl rfl rfl rfl ?_
      refine o_guard_no rfl 72 rfl rfl rfl rfl rfl ?_
      refine o_guard_no rfl 72 rfl rfl rfl rfl rfl ?_
      refine o_guard_no rfl 72 rfl rfl rfl rfl rfl ?_
      refine o_pure (p_pick_false (v := .bool false) rfl rfl) rfl rfl rfl ?_
      exact o_sub (Sub.cons rfl (Sub.skip rfl (Sub.skip rfl (Sub.skip rfl (Sub.skip rfl (Sub.skip rfl (Sub.skip rfl (Sub.skip rfl (Sub.skip rfl (Sub.refl _)))))))))) hk
    refine o_pure (p_move (v := .bool (decide (((Opt.ev l room).2) ≤ ((l.length : Int) - ((Lru.run (⟨room, []⟩ : DCache) l).2))) && decide (((Opt.ev l room).2) ≤ ((l.length : Int) - ((Clock.run (⟨room, 0, []⟩ : DClock) l).2))))) rfl) rfl rfl rfl ?_
    refine o_and (p := 87) 7 (decide (((Opt.ev l room).2) ≤ ((l.length : Int) - ((Lfu.run (⟨room, []⟩ : DUses) l).2)))) ?_ ?_ ?_
    · intro hb29 hk
      simp only [Bool.and_eq_true, decide_eq_true_eq] at hb29
      refine o_unguard 80 rfl rfl ?_
      refine o_pure (p_move (v := .int .i64 ((Opt.ev l room).2)) rfl) rfl rfl rfl ?_
      refine o_unguard 80 rfl rfl ?_
      refine o_pure (p_move (v := .slice al l.length cl) rfl) rfl rfl rfl ?_
      refine o_unguard 80 rfl rfl ?_
      refine o_pure (p_len_slice (len := l.length) rfl rfl Try.underlying23) rfl rfl rfl ?_
      refine o_unguard 80 rfl rfl ?_
      refine o_pure (p_move (v := .int .i64 ((Lfu.run (⟨room, []⟩ : DUses) l).2)) rfl) rfl rfl rfl ?_
      refine o_unguard 80 rfl rfl ?_
      refine o_pure (p_subb (p := (l.length : Int)) (q := ((Lfu.run (⟨room, []⟩ : DUses) l).2)) rfl rfl (by omega)) rfl rfl rfl ?_
      refine o_unguard 80 rfl rfl ?_
      refine o_pure (p_le (p := ((Opt.ev l room).2)) (q := ((l.length : Int) - ((Lfu.run (⟨room, []⟩ : DUses) l).2))) rfl rfl) rfl rfl rfl ?_
      refine o_pure (p_pick_true (u := .bool (decide (((Opt.ev l room).2) ≤ ((l.length : Int) - ((Lfu.run (⟨room, []⟩ : DUses) l).2))))) rfl rfl) rfl rfl rfl ?_
      exact o_sub (Sub.cons rfl (Sub.skip rfl (Sub.skip rfl (Sub.skip rfl (Sub.skip rfl (Sub.skip rfl (Sub.skip rfl (Sub.skip rfl (Sub.skip rfl (Sub.refl _)))))))))) hk
    · intro hb29 hk
      refine o_guard_no rfl 80 rfl rfl rfl rfl rfl ?_
      refine o_guard_no rfl 80 rfl rfl rfl rfl rfl ?_
      refine o_guard_no rfl 80 rfl rfl rfl rfl rfl ?_
      refine o_guard_no rfl 80 rfl rfl rfl rfl rfl ?_
      refine o_guard_no rfl 80 rfl rfl rfl rfl rfl ?_
      refine o_guard_no rfl 80 rfl rfl rfl rfl rfl ?_
      refine o_pure (p_pick_false (v := .bool false) rfl rfl) rfl rfl rfl ?_
      exact o_sub (Sub.cons rfl (Sub.skip rfl (Sub.skip rfl (Sub.skip rfl (Sub.skip rfl (Sub.skip rfl (Sub.skip rfl (Sub.skip rfl (Sub.skip rfl (Sub.refl _)))))))))) hk
    refine o_pure (p_assign (v := .bool ((decide (((Opt.ev l room).2) ≤ ((l.length : Int) - ((Lru.run (⟨room, []⟩ : DCache) l).2))) && decide (((Opt.ev l room).2) ≤ ((l.length : Int) - ((Clock.run (⟨room, 0, []⟩ : DClock) l).2)))) && decide (((Opt.ev l room).2) ≤ ((l.length : Int) - ((Lfu.run (⟨room, []⟩ : DUses) l).2))))) rfl) rfl rfl rfl ?_
    refine o_nil ?_
    refine q_then ?_
    refine c_ret ?_
    have hr0 : (((decide (((Opt.ev l room).2) ≤ ((l.length : Int) - ((Lru.run (⟨room, []⟩ : DCache) l).2))) && decide (((Opt.ev l room).2) ≤ ((l.length : Int) - ((Clock.run (⟨room, 0, []⟩ : DClock) l).2)))) && decide (((Opt.ev l room).2) ≤ ((l.length : Int) - ((Lfu.run (⟨room, []⟩ : DUses) l).2)))) : Bool) = true := by
      first | rfl | (rw [hz]; rfl) | (simp only [Bool.and_eq_true, decide_eq_true_eq]; exact ⟨⟨q1, q2⟩, q3⟩)
    refine q_end0 (v := .bool ((decide (((Opt.ev l room).2) ≤ ((l.length : Int) - ((Lru.run (⟨room, []⟩ : DCache) l).2))) && decide (((Opt.ev l room).2) ≤ ((l.length : Int) - ((Clock.run (⟨room, 0, []⟩ : DClock) l).2)))) && decide (((Opt.ev l room).2) ≤ ((l.length : Int) - ((Lfu.run (⟨room, []⟩ : DUses) l).2))))) (rt1 rfl (r_tmp rfl)) (i := 7) rfl ?_
    exact (by have hcc := congrArg (fun (y0 : Bool) => (.bool y0 : Value)) hr0; exact hcc)
end Go.Proofs.Ytgjdmnljnimamaa
