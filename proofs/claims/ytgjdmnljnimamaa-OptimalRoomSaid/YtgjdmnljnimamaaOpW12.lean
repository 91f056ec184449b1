/- The walks, printed by a program from the translation and a specification. -/
import Derived.Test.YtgjdmnljnimamaaOpF
import Derived.Test.YtgjdmnljnimamaaOpLaw2
import Derived.Test.YtgjdmnljnimamaaOpW8
import Derived.Test.YtgjdmnljnimamaaOpW11
import Derived.Test.YtgjdmnljnimamaaOpLaw3
namespace Go.Proofs.Ytgjdmnljnimamaa
open Go.Sx Go.RowKit
set_option maxHeartbeats 8000000 in
set_option maxRecDepth 100000 in
theorem optimalRoom_ok (l : List Int) (al : Option Addr) (cl : Nat) (room : Int) (least : Int) : Fn0 Try.prog 13 [.slice al l.length cl, .int .i64 room, .int .i64 least] (fun w => Rd tInt w al cl l) (.bool true) := by
  refine fn0 (nt := 74) (F0 := [(0, .slice al l.length cl), (1, .int .i64 room), (2, .int .i64 least)]) Try.func13 rfl Try.ntmps13 rfl rfl (fun w0 hpre => ?_)
  have hl := hpre
  have hlhl := hl.2.1
  refine c_seq ?_
  refine c_region ?_
  refine o_pure (p_assign (v := .bool false) rfl) rfl rfl rfl ?_
  refine o_nil ?_
  refine q_then ?_
  refine c_seq ?_
  refine c_region ?_
  refine o_pure (p_move (v := .slice al l.length cl) rfl) rfl rfl rfl ?_
  refine o_pure (p_move (v := .int .i64 least) rfl) rfl rfl rfl ?_
  refine o_callM rfl (oevict_ok l al cl least) hf38 (fun w hw => (rd_base (i := 0) rfl hl) w hw) rfl (fun _ _ _ _ ha hA => SlO.agree ha hA) ?_
  rintro ⟨a3, c4⟩ S1
  refine o_know (fun w hw => own_len (i := 0) (T := tInt) hw rfl) (fun hlr5 => ?_)
  refine o_pure (p_move (v := .tuple #[.slice a3 ((Opt.ev l least).1).length c4, .int .i64 ((Opt.ev l least).2), .int .i64 (Opt.evErr l least)]) rfl) rfl rfl rfl ?_
  refine o_pure (p_extract (vs := [.slice a3 ((Opt.ev l least).1).length c4, .int .i64 ((Opt.ev l least).2), .int .i64 (Opt.evErr l least)]) (v := .slice a3 ((Opt.ev l least).1).length c4) rfl rfl) rfl rfl rfl ?_
  refine o_pure (p_extract (vs := [.slice a3 ((Opt.ev l least).1).length c4, .int .i64 ((Opt.ev l least).2), .int .i64 (Opt.evErr l least)]) (v := .int .i64 ((Opt.ev l least).2)) rfl rfl) rfl rfl rfl ?_
  refine o_pure (p_extract (vs := [.slice a3 ((Opt.ev l least).1).length c4, .int .i64 ((Opt.ev l least).2), .int .i64 (Opt.evErr l least)]) (v := .int .i64 (Opt.evErr l least)) rfl rfl) rfl rfl rfl ?_
  refine o_pure (p_assign (v := .slice a3 ((Opt.ev l least).1).length c4) rfl) rfl rfl rfl ?_
  refine o_pure (p_assign (v := .int .i64 ((Opt.ev l least).2)) rfl) rfl rfl rfl ?_
  refine o_pure (p_assign (v := .int .i64 (Opt.evErr l least)) rfl) rfl rfl rfl ?_
  refine o_nil ?_
  refine q_then ?_
  refine c_seq ?_
  refine c_region ?_
  refine o_pure (p_move (v := .slice al l.length cl) rfl) rfl rfl rfl ?_
  refine o_pure (p_move (v := .int .i64 room) rfl) rfl rfl rfl ?_
  refine o_callM rfl (oevict_ok l al cl room) hf38 (fun w hw => (rd_base (i := 1) rfl hl) w hw) rfl (fun _ _ _ _ ha hA => SlO.agree ha hA) ?_
  rintro ⟨a8, c9⟩ S6
  refine o_know (fun w hw => own_len (i := 0) (T := tInt) hw rfl) (fun hlr10 => ?_)
  refine o_pure (p_move (v := .tuple #[.slice a8 ((Opt.ev l room).1).length c9, .int .i64 ((Opt.ev l room).2), .int .i64 (Opt.evErr l room)]) rfl) rfl rfl rfl ?_
  refine o_pure (p_extract (vs := [.slice a8 ((Opt.ev l room).1).length c9, .int .i64 ((Opt.ev l room).2), .int .i64 (Opt.evErr l room)]) (v := .slice a8 ((Opt.ev l room).1).length c9) rfl rfl) rfl rfl rfl ?_
  refine o_pure (p_extract (vs := [.slice a8 ((Opt.ev l room).1).length c9, .int .i64 ((Opt.ev l room).2), .int .i64 (Opt.evErr l room)]) (v := .int .i64 ((Opt.ev l room).2)) rfl rfl) rfl rfl rfl ?_
  refine o_pure (p_extract (vs := [.slice a8 ((Opt.ev l room).1).length c9, .int .i64 ((Opt.ev l room).2), .int .i64 (Opt.evErr l room)]) (v := .int .i64 (Opt.evErr l room)) rfl rfl) rfl rfl rfl ?_
  refine o_pure (p_assign (v := .slice a8 ((Opt.ev l room).1).length c9) rfl) rfl rfl rfl ?_
  refine o_pure (p_assign (v := .int .i64 ((Opt.ev l room).2)) rfl) rfl rfl rfl ?_
  refine o_pure (p_assign (v := .int .i64 (Opt.evErr l room)) rfl) rfl rfl rfl ?_
  refine o_nil ?_
  refine q_then ?_
  refine c_seq ?_
  refine c_region ?_
  refine o_pure (p_move (v := .int .i64 room) rfl) rfl rfl rfl ?_
  refine o_pure (p_build (cells := [.int .i64 room, .slice none 0 0]) fp48 ze48 rfl rfl) rfl rfl rfl ?_
  refine o_pure (p_move (v := .slice al l.length cl) rfl) rfl rfl rfl ?_
  refine o_callM rfl (lrun_ok (⟨room, []⟩ : DCache) none 0 l al cl) hf37 (fun w hw => ⟨rd_nil w hw, (rd_base (i := 2) rfl hl) w hw⟩) rfl (fun _ _ _ _ ha hA => SlO.agree ha hA) ?_
  rintro ⟨a13, c14⟩ S11
  refine o_know (fun w hw => own_len (i := 0) (T := tInt) hw rfl) (fun hlr15 => ?_)
  refine o_pure (p_move (v := .tuple #[.agg #[.int .i64 (((Lru.run (⟨room, []⟩ : DCache) l).1).room), .slice a13 (((Lru.run (⟨room, []⟩ : DCache) l).1).keys).length c14], .int .i64 ((Lru.run (⟨room, []⟩ : DCache) l).2), .int .i64 (Lru.runErr (⟨room, []⟩ : DCache) l)]) rfl) rfl rfl rfl ?_
  refine o_pure (p_extract (vs := [.agg #[.int .i64 (((Lru.run (⟨room, []⟩ : DCache) l).1).room), .slice a13 (((Lru.run (⟨room, []⟩ : DCache) l).1).keys).length c14], .int .i64 ((Lru.run (⟨room, []⟩ : DCache) l).2), .int .i64 (Lru.runErr (⟨room, []⟩ : DCache) l)]) (v := .agg #[.int .i64 (((Lru.run (⟨room, []⟩ : DCache) l).1).room), .slice a13 (((Lru.run (⟨room, []⟩ : DCache) l).1).keys).length c14]) rfl rfl) rfl rfl rfl ?_
  refine o_pure (p_extract (vs := [.agg #[.int .i64 (((Lru.run (⟨room, []⟩ : DCache) l).1).room), .slice a13 (((Lru.run (⟨room, []⟩ : DCache) l).1).keys).length c14], .int .i64 ((Lru.run (⟨room, []⟩ : DCache) l).2), .int .i64 (Lru.runErr (⟨room, []⟩ : DCache) l)]) (v := .int .i64 ((Lru.run (⟨room, []⟩ : DCache) l).2)) rfl rfl) rfl rfl rfl ?_
  refine o_pure (p_extract (vs := [.agg #[.int .i64 (((Lru.run (⟨room, []⟩ : DCache) l).1).room), .slice a13 (((Lru.run (⟨room, []⟩ : DCache) l).1).keys).length c14], .int .i64 ((Lru.run (⟨room, []⟩ : DCache) l).2), .int .i64 (Lru.runErr (⟨room, []⟩ : DCache) l)]) (v := .int .i64 (Lru.runErr (⟨room, []⟩ : DCache) l)) rfl rfl) rfl rfl rfl ?_
  refine o_alloc ze48 rfl (fun B16 => ?_)
  refine o_storeN (i := 0) (vs := [.int .i64 (((Lru.run (⟨room, []⟩ : DCache) l).1).room), .slice a13 (((Lru.run (⟨room, []⟩ : DCache) l).1).keys).length c14]) (cs' := [.int .i64 (((Lru.run (⟨room, []⟩ : DCache) l).1).room), .slice a13 (((Lru.run (⟨room, []⟩ : DCache) l).1).keys).length c14]) rfl rfl rfl sz48 rfl rfl rfl rfl ?_
  refine o_pure (p_assign (v := .int .i64 ((Lru.run (⟨room, []⟩ : DCache) l).2)) rfl) rfl rfl rfl ?_
  refine o_pure (p_assign (v := .int .i64 (Lru.runErr (⟨room, []⟩ : DCache) l)) rfl) rfl rfl rfl ?_
  refine o_nil ?_
  refine q_then ?_
  refine c_seq ?_
  refine c_region ?_
  refine o_pure (p_move (v := .int .i64 ((Opt.ev l least).2)) rfl) rfl rfl rfl ?_
  refine o_pure (p_move (v := .int .i64 room) rfl) rfl rfl rfl ?_
  refine o_pure (p_move (v := .int .i64 least) rfl) rfl rfl rfl ?_
  refine o_call0 (v := .tuple #[.int .i64 (Opt.bound ((Opt.ev l least).2) room least), .int .i64 (Opt.boundErr ((Opt.ev l least).2) room least)]) rfl (obound_ok ((Opt.ev l least).2) room least) hf40 (fun _ _ => trivial) rfl ?_
  refine o_pure (p_move (v := .tuple #[.int .i64 (Opt.bound ((Opt.ev l least).2) room least), .int .i64 (Opt.boundErr ((Opt.ev l least).2) room least)]) rfl) rfl rfl rfl ?_
  refine o_pure (p_extract (vs := [.int .i64 (Opt.bound ((Opt.ev l least).2) room least), .int .i64 (Opt.boundErr ((Opt.ev l least).2) room least)]) (v := .int .i64 (Opt.bound ((Opt.ev l least).2) room least)) rfl rfl) rfl rfl rfl ?_
  refine o_pure (p_extract (vs := [.int .i64 (Opt.bound ((Opt.ev l least).2) room least), .int .i64 (Opt.boundErr ((Opt.ev l least).2) room least)]) (v := .int .i64 (Opt.boundErr ((Opt.ev l least).2) room least)) rfl rfl) rfl rfl rfl ?_
  refine o_pure (p_assign (v := .int .i64 (Opt.bound ((Opt.ev l least).2) room least)) rfl) rfl rfl rfl ?_
  refine o_pure (p_assign (v := .int .i64 (Opt.boundErr ((Opt.ev l least).2) room least)) rfl) rfl rfl rfl ?_
  refine o_nil ?_
  refine q_then ?_
  refine c_seq ?_
  refine c_seq ?_
  refine c_region ?_
  refine o_call0 (v := .bool true) rfl (bestBegun_ok ) hf43 (fun _ _ => trivial) rfl ?_
  refine o_pure (p_not (b := true) rfl) rfl rfl rfl ?_
  refine o_nil ?_
  refine q_then ?_
  refine c_false rfl ?_
  refine c_skip ?_
  refine q_then ?_
  refine c_seq ?_
  refine c_seq ?_
  refine c_region ?_
  refine o_pure (p_move (v := .int .i64 (Opt.evErr l least)) rfl) rfl rfl rfl ?_
  refine o_pure (p_ne (p := (Opt.evErr l least)) (q := 0) rfl rfl) rfl rfl rfl ?_
  refine o_pure (p_move (v := .bool ((Opt.evErr l least) != 0)) rfl) rfl rfl rfl ?_
  refine o_or (p := 54) 3 ((Opt.evErr l room) != 0) ?_ ?_ ?_
  · intro hb17 hk
    simp only [bne_eq_false_iff_eq] at hb17
    refine o_unguard 51 rfl rfl ?_
    refine o_pure (p_move (v := .int .i64 (Opt.evErr l room)) rfl) rfl rfl rfl ?_
    refine o_unguard 51 rfl rfl ?_
    refine o_pure (p_ne (p := (Opt.evErr l room)) (q := 0) rfl rfl) rfl rfl rfl ?_
    refine o_pure (p_pick_false (v := .bool ((Opt.evErr l room) != 0)) rfl rfl) rfl rfl rfl ?_
    exact o_sub (Sub.cons rfl (Sub.skip rfl (Sub.skip rfl (Sub.skip rfl (Sub.skip rfl (Sub.refl _)))))) hk
  · intro hb17 hk
    refine o_guard_no rfl 51 rfl rfl rfl rfl rfl ?_
    refine o_guard_no rfl 51 rfl rfl rfl rfl rfl ?_
    refine o_pure (p_pick_true (u := .bool true) rfl rfl) rfl rfl rfl ?_
    exact o_sub (Sub.cons rfl (Sub.skip rfl (Sub.skip rfl (Sub.skip rfl (Sub.skip rfl (Sub.refl _)))))) hk
  refine o_pure (p_move (v := .bool (((Opt.evErr l least) != 0) || ((Opt.evErr l room) != 0))) rfl) rfl rfl rfl ?_
  refine o_or (p := 58) 3 ((Lru.runErr (⟨room, []⟩ : DCache) l) != 0) ?_ ?_ ?_
  · intro hb18 hk
    simp only [Bool.or_eq_false_iff, bne_eq_false_iff_eq] at hb18
    refine o_unguard 55 rfl rfl ?_
    refine o_pure (p_move (v := .int .i64 (Lru.runErr (⟨room, []⟩ : DCache) l)) rfl) rfl rfl rfl ?_
    refine o_unguard 55 rfl rfl ?_
    refine o_pure (p_ne (p := (Lru.runErr (⟨room, []⟩ : DCache) l)) (q := 0) rfl rfl) rfl rfl rfl ?_
    refine o_pure (p_pick_false (v := .bool ((Lru.runErr (⟨room, []⟩ : DCache) l) != 0)) rfl rfl) rfl rfl rfl ?_
    exact o_sub (Sub.cons rfl (Sub.skip rfl (Sub.skip rfl (Sub.skip rfl (Sub.skip rfl (Sub.refl _)))))) hk
  · intro hb18 hk
    refine o_guard_no rfl 55 rfl rfl rfl rfl rfl ?_
    refine o_guard_no rfl 55 rfl rfl rfl rfl rfl ?_
    refine o_pure (p_pick_true (u := .bool true) rfl rfl) rfl rfl rfl ?_
    exact o_sub (Sub.cons rfl (Sub.skip rfl (Sub.skip rfl (Sub.skip rfl (Sub.skip rfl (Sub.refl _)))))) hk
  refine o_pure (p_move (v := .bool ((((Opt.evErr l least) != 0) || ((Opt.evErr l room) != 0)) || ((Lru.runErr (⟨room, []⟩ : DCache) l) != 0))) rfl) rfl rfl rfl ?_
  refine o_or (p := 62) 3 ((Opt.boundErr ((Opt.ev l least).2) room least) != 0) ?_ ?_ ?_
  · intro hb19 hk
    simp only [Bool.or_eq_false_iff, bne_eq_false_iff_eq] at hb19
    refine o_unguard 59 rfl rfl ?_
    refine o_pure (p_move (v := .int .i64 (Opt.boundErr ((Opt.ev l least).2) room least)) rfl) rfl rfl rfl ?_
    refine o_unguard 59 rfl rfl ?_
    refine o_pure (p_ne (p := (Opt.boundErr ((Opt.ev l least).2) room least)) (q := 0) rfl rfl) rfl rfl rfl ?_
    refine o_pure (p_pick_false (v := .bool ((Opt.boundErr ((Opt.ev l least).2) room least) != 0)) rfl rfl) rfl rfl rfl ?_
    exact o_sub (Sub.cons rfl (Sub.skip rfl (Sub.skip rfl (Sub.skip rfl (Sub.skip rfl (Sub.refl _)))))) hk
  · intro hb19 hk
    refine o_guard_no rfl 59 rfl rfl rfl rfl rfl ?_
    refine o_guard_no rfl 59 rfl rfl rfl rfl rfl ?_
    refine o_pure (p_pick_true (u := .bool true) rfl rfl) rfl rfl rfl ?_
    exact o_sub (Sub.cons rfl (Sub.skip rfl (Sub.skip rfl (Sub.skip rfl (Sub.skip rfl (Sub.refl _)))))) hk
  refine o_nil ?_
  refine q_then ?_
  refine c_cond (b := (((((Opt.evErr l least) != 0) || ((Opt.evErr l room) != 0)) || ((Lru.runErr (⟨room, []⟩ : DCache) l) != 0)) || ((Opt.boundErr ((Opt.ev l least).2) room least) != 0))) rfl (fun hc20 => ?_) (fun hc20 => ?_)
  · simp only [Bool.or_eq_true, bne_iff_ne, ne_eq] at hc20
    refine c_seq ?_
    refine c_region ?_
    refine o_pure (p_assign (v := .bool true) rfl) rfl rfl rfl ?_
    refine o_nil ?_
    refine q_then ?_
    refine c_ret ?_
    refine q_then_ret ?_
    refine q_end0 (v := .bool true) (rt1 rfl (r_tmp rfl)) (i := 4) rfl ?_
    exact rfl
  · simp only [Bool.or_eq_false_iff, bne_eq_false_iff_eq] at hc20
    have hall := hc20
    obtain ⟨⟨⟨z1, z2⟩, z3⟩, z4⟩ := hall
    obtain ⟨q1, q2, q3, q4, q5⟩ := Opt.room_law z1 z2 z3 z4
    refine c_skip ?_
    refine q_then ?_
    refine c_seq ?_
    refine c_region ?_
    refine o_pure (p_move (v := .slice al l.length cl) rfl) rfl rfl rfl ?_
    refine o_pure (p_len_slice (len := l.length) rfl rfl Try.underlying23) rfl rfl rfl ?_
    refine o_pure (p_move (v := .int .i64 ((Lru.run (⟨room, []⟩ : DCache) l).2)) rfl) rfl rfl rfl ?_
    refine o_pure (p_subb (p := (l.length : Int)) (q := ((Lru.run (⟨room, []⟩ : DCache) l).2)) rfl rfl (by omega)) rfl rfl rfl ?_
    refine o_pure (p_move (v := .int .i64 (Opt.bound ((Opt.ev l least).2) room least)) rfl) rfl rfl rfl ?_
    refine o_pure (p_le (p := ((l.length : Int) - ((Lru.run (⟨room, []⟩ : DCache) l).2))) (q := (Opt.bound ((Opt.ev l least).2) room least)) rfl rfl) rfl rfl rfl ?_
    refine o_pure (p_move (v := .bool (decide (((l.length : Int) - ((Lru.run (⟨room, []⟩ : DCache) l).2)) ≤ (Opt.bound ((Opt.ev l least).2) room least)))) rfl) rfl rfl rfl ?_
    refine o_and (p := 73) 4 (decide (((Opt.ev l room).2) ≤ ((Opt.ev l least).2))) ?_ ?_ ?_
    · intro hb21 hk
      simp only [decide_eq_true_eq] at hb21
      refine o_unguard 69 rfl rfl ?_
      refine o_pure (p_move (v := .int .i64 ((Opt.ev l room).2)) rfl) rfl rfl rfl ?_
      refine o_unguard 69 rfl rfl ?_
      refine o_pure (p_move (v := .int .i64 ((Opt.ev l least).2)) rfl) rfl rfl rfl ?_
      refine o_unguard 69 rfl rfl ?_
      refine o_pure (p_le (p := ((Opt.ev l room).2)) (q := ((Opt.ev l least).2)) rfl rfl) rfl rfl rfl ?_
      refine o_pure (p_pick_true (u := .bool (decide (((Opt.ev l room).2) ≤ ((Opt.ev l least).2)))) rfl rfl) rfl rfl rfl ?_
      exact o_sub (Sub.cons rfl (Sub.skip rfl (Sub.skip rfl (Sub.skip rfl (Sub.skip rfl (Sub.skip rfl (Sub.refl _))))))) hk
    · intro hb21 hk
      refine o_guard_no rfl 69 rfl rfl rfl rfl rfl ?_
      refine o_guard_no rfl 69 rfl rfl rfl rfl rfl ?_
      refine o_guard_no rfl 69 rfl rfl rfl rfl rfl ?_
      refine o_pure (p_pick_false (v := .bool false) rfl rfl) rfl rfl rfl ?_
      exact o_sub (Sub.cons rfl (Sub.skip rfl (Sub.skip rfl (Sub.skip rfl (Sub.skip rfl (Sub.skip rfl (Sub.refl _))))))) hk
    refine o_pure (p_assign (v := .bool (decide (((l.length : Int) - ((Lru.run (⟨room, []⟩ : DCache) l).2)) ≤ (Opt.bound ((Opt.ev l least).2) room least)) && decide (((Opt.ev l room).2) ≤ ((Opt.ev l least).2)))) rfl) rfl rfl rfl ?_
    refine o_nil ?_
    refine q_then ?_
    refine c_ret ?_
    have hr0 : ((decide (((l.length : Int) - ((Lru.run (⟨room, []⟩ : DCache) l).2)) ≤ (Opt.bound ((Opt.ev l least).2) room least)) && decide (((Opt.ev l room).2) ≤ ((Opt.ev l least).2))) : Bool) = true := by
      first | rfl | (simp only [Bool.and_eq_true, decide_eq_true_eq]; exact ⟨q1, q2⟩)
    refine q_end0 (v := .bool (decide (((l.length : Int) - ((Lru.run (⟨room, []⟩ : DCache) l).2)) ≤ (Opt.bound ((Opt.ev l least).2) room least)) && decide (((Opt.ev l room).2) ≤ ((Opt.ev l least).2)))) (rt1 rfl (r_tmp rfl)) (i := 4) rfl ?_
    exact (by have hcc := congrArg (fun (y0 : Bool) => (.bool y0 : Value)) hr0; exact hcc)
end Go.Proofs.Ytgjdmnljnimamaa
