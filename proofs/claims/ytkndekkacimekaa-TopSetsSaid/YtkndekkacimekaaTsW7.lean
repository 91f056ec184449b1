/- The walks, printed by a program from the translation and a specification. -/
import Derived.Test.YtkndekkacimekaaTsF
import Derived.Test.YtkndekkacimekaaOpLaw2
import Derived.Test.YtkndekkacimekaaWsPure
import Derived.Test.YtkndekkacimekaaTsW2
import Derived.Test.YtkndekkacimekaaTsW5
import Derived.Test.YtkndekkacimekaaTsW6
import Derived.Test.YtkndekkacimekaaWsLaw
import Derived.Test.YtkndekkacimekaaOpLaw3
namespace Go.Proofs.Ytkndekkacimekaa
open Go.Sx Go.RowKit
set_option maxHeartbeats 8000000 in
set_option maxRecDepth 100000 in
theorem topSets_ok (window : Int) (l : List Int) (al : Option Addr) (cl : Nat) : Fn0 Try.prog 14 [.int .i64 window, .slice al l.length cl] (fun w => Rd tInt w al cl l) (.bool true) := by
  refine fn0 (nt := 60) (F0 := [(0, .int .i64 window), (1, .slice al l.length cl)]) Try.func14 rfl Try.ntmps14 rfl rfl (fun w0 hpre => ?_)
  have hl := hpre
  have hlhl := hl.2.1
  refine c_seq ?_
  refine c_region ?_
  refine o_pure (p_assign (v := .bool false) rfl) rfl rfl rfl ?_
  refine o_nil ?_
  refine q_then ?_
  refine c_seq ?_
  refine c_seq ?_
  refine c_region ?_
  refine o_call0 (v := .bool true) rfl (tbegun_ok ) hf43 (fun _ _ => trivial) rfl ?_
  refine o_pure (p_not (b := true) rfl) rfl rfl rfl ?_
  refine o_nil ?_
  refine q_then ?_
  refine c_false rfl ?_
  refine c_skip ?_
  refine q_then ?_
  refine c_seq ?_
  refine c_region ?_
  refine o_pure (p_move (v := .slice al l.length cl) rfl) rfl rfl rfl ?_
  refine o_pure (p_move (v := .int .i64 window) rfl) rfl rfl rfl ?_
  refine o_call0 (v := .tuple #[.int .i64 (Ws.faults l window), .int .i64 (Ws.check l window)]) rfl (wfaults_ok l al cl window) hf45 (fun w hw => (rd_base (i := 0) rfl hl) w hw) rfl ?_
  refine o_pure (p_move (v := .tuple #[.int .i64 (Ws.faults l window), .int .i64 (Ws.check l window)]) rfl) rfl rfl rfl ?_
  refine o_pure (p_extract (vs := [.int .i64 (Ws.faults l window), .int .i64 (Ws.check l window)]) (v := .int .i64 (Ws.faults l window)) rfl rfl) rfl rfl rfl ?_
  refine o_pure (p_extract (vs := [.int .i64 (Ws.faults l window), .int .i64 (Ws.check l window)]) (v := .int .i64 (Ws.check l window)) rfl rfl) rfl rfl rfl ?_
  refine o_pure (p_assign (v := .int .i64 (Ws.faults l window)) rfl) rfl rfl rfl ?_
  refine o_pure (p_assign (v := .int .i64 (Ws.check l window)) rfl) rfl rfl rfl ?_
  refine o_nil ?_
  refine q_then ?_
  refine c_seq ?_
  refine c_region ?_
  refine o_pure (p_move (v := .int .i64 window) rfl) rfl rfl rfl ?_
  refine o_pure (p_build (cells := [.int .i64 window, .slice none 0 0]) fp54 ze54 rfl rfl) rfl rfl rfl ?_
  refine o_pure (p_move (v := .slice al l.length cl) rfl) rfl rfl rfl ?_
  refine o_callM rfl (lrun_ok (⟨window, []⟩ : DCache) none 0 l al cl) hf32 (fun w hw => ⟨rd_nil w hw, (rd_base (i := 0) rfl hl) w hw⟩) rfl (fun _ _ _ _ ha hA => SlO.agree ha hA) ?_
  rintro ⟨a3, c4⟩ S1
  refine o_know (fun w hw => own_len (i := 0) (T := tInt) hw rfl) (fun hlr5 => ?_)
  refine o_pure (p_move (v := .tuple #[.agg #[.int .i64 (((Lru.run (⟨window, []⟩ : DCache) l).1).room), .slice a3 (((Lru.run (⟨window, []⟩ : DCache) l).1).keys).length c4], .int .i64 ((Lru.run (⟨window, []⟩ : DCache) l).2), .int .i64 (Lru.runErr (⟨window, []⟩ : DCache) l)]) rfl) rfl rfl rfl ?_
  refine o_pure (p_extract (vs := [.agg #[.int .i64 (((Lru.run (⟨window, []⟩ : DCache) l).1).room), .slice a3 (((Lru.run (⟨window, []⟩ : DCache) l).1).keys).length c4], .int .i64 ((Lru.run (⟨window, []⟩ : DCache) l).2), .int .i64 (Lru.runErr (⟨window, []⟩ : DCache) l)]) (v := .agg #[.int .i64 (((Lru.run (⟨window, []⟩ : DCache) l).1).room), .slice a3 (((Lru.run (⟨window, []⟩ : DCache) l).1).keys).length c4]) rfl rfl) rfl rfl rfl ?_
  refine o_pure (p_extract (vs := [.agg #[.int .i64 (((Lru.run (⟨window, []⟩ : DCache) l).1).room), .slice a3 (((Lru.run (⟨window, []⟩ : DCache) l).1).keys).length c4], .int .i64 ((Lru.run (⟨window, []⟩ : DCache) l).2), .int .i64 (Lru.runErr (⟨window, []⟩ : DCache) l)]) (v := .int .i64 ((Lru.run (⟨window, []⟩ : DCache) l).2)) rfl rfl) rfl rfl rfl ?_
  refine o_pure (p_extract (vs := [.agg #[.int .i64 (((Lru.run (⟨window, []⟩ : DCache) l).1).room), .slice a3 (((Lru.run (⟨window, []⟩ : DCache) l).1).keys).length c4], .int .i64 ((Lru.run (⟨window, []⟩ : DCache) l).2), .int .i64 (Lru.runErr (⟨window, []⟩ : DCache) l)]) (v := .int .i64 (Lru.runErr (⟨window, []⟩ : DCache) l)) rfl rfl) rfl rfl rfl ?_
  refine o_alloc ze54 rfl (fun B6 => ?_)
  refine o_storeN (i := 0) (vs := [.int .i64 (((Lru.run (⟨window, []⟩ : DCache) l).1).room), .slice a3 (((Lru.run (⟨window, []⟩ : DCache) l).1).keys).length c4]) (cs' := [.int .i64 (((Lru.run (⟨window, []⟩ : DCache) l).1).room), .slice a3 (((Lru.run (⟨window, []⟩ : DCache) l).1).keys).length c4]) rfl rfl rfl sz54 rfl rfl rfl rfl ?_
  refine o_pure (p_assign (v := .int .i64 ((Lru.run (⟨window, []⟩ : DCache) l).2)) rfl) rfl rfl rfl ?_
  refine o_pure (p_assign (v := .int .i64 (Lru.runErr (⟨window, []⟩ : DCache) l)) rfl) rfl rfl rfl ?_
  refine o_nil ?_
  refine q_then ?_
  refine c_seq ?_
  refine c_region ?_
  refine o_pure (p_move (v := .slice al l.length cl) rfl) rfl rfl rfl ?_
  refine o_pure (p_move (v := .int .i64 window) rfl) rfl rfl rfl ?_
  refine o_callM rfl (oevict_ok l al cl window) hf46 (fun w hw => (rd_base (i := 2) rfl hl) w hw) rfl (fun _ _ _ _ ha hA => SlO.agree ha hA) ?_
  rintro ⟨a9, c10⟩ S7
  refine o_know (fun w hw => own_len (i := 0) (T := tInt) hw rfl) (fun hlr11 => ?_)
  refine o_pure (p_move (v := .tuple #[.slice a9 ((Opt.ev l window).1).length c10, .int .i64 ((Opt.ev l window).2), .int .i64 (Opt.evErr l window)]) rfl) rfl rfl rfl ?_
  refine o_pure (p_extract (vs := [.slice a9 ((Opt.ev l window).1).length c10, .int .i64 ((Opt.ev l window).2), .int .i64 (Opt.evErr l window)]) (v := .slice a9 ((Opt.ev l window).1).length c10) rfl rfl) rfl rfl rfl ?_
  refine o_pure (p_extract (vs := [.slice a9 ((Opt.ev l window).1).length c10, .int .i64 ((Opt.ev l window).2), .int .i64 (Opt.evErr l window)]) (v := .int .i64 ((Opt.ev l window).2)) rfl rfl) rfl rfl rfl ?_
  refine o_pure (p_extract (vs := [.slice a9 ((Opt.ev l window).1).length c10, .int .i64 ((Opt.ev l window).2), .int .i64 (Opt.evErr l window)]) (v := .int .i64 (Opt.evErr l window)) rfl rfl) rfl rfl rfl ?_
  refine o_pure (p_assign (v := .slice a9 ((Opt.ev l window).1).length c10) rfl) rfl rfl rfl ?_
  refine o_pure (p_assign (v := .int .i64 ((Opt.ev l window).2)) rfl) rfl rfl rfl ?_
  refine o_pure (p_assign (v := .int .i64 (Opt.evErr l window)) rfl) rfl rfl rfl ?_
  refine o_nil ?_
  refine q_then ?_
  refine c_seq ?_
  refine c_seq ?_
  refine c_region ?_
  refine o_pure (p_move (v := .int .i64 (Ws.check l window)) rfl) rfl rfl rfl ?_
  refine o_pure (p_ne (p := (Ws.check l window)) (q := 0) rfl rfl) rfl rfl rfl ?_
  refine o_pure (p_move (v := .bool ((Ws.check l window) != 0)) rfl) rfl rfl rfl ?_
  refine o_or (p := 41) 3 ((Lru.runErr (⟨window, []⟩ : DCache) l) != 0) ?_ ?_ ?_
  · intro hb12 hk
    simp only [bne_eq_false_iff_eq] at hb12
    refine o_unguard 38 rfl rfl ?_
    refine o_pure (p_move (v := .int .i64 (Lru.runErr (⟨window, []⟩ : DCache) l)) rfl) rfl rfl rfl ?_
    refine o_unguard 38 rfl rfl ?_
    refine o_pure (p_ne (p := (Lru.runErr (⟨window, []⟩ : DCache) l)) (q := 0) rfl rfl) rfl rfl rfl ?_
    refine o_pure (p_pick_false (v := .bool ((Lru.runErr (⟨window, []⟩ : DCache) l) != 0)) rfl rfl) rfl rfl rfl ?_
    exact o_sub (Sub.cons rfl (Sub.skip rfl (Sub.skip rfl (Sub.skip rfl (Sub.skip rfl (Sub.refl _)))))) hk
  · intro hb12 hk
    refine o_guard_no rfl 38 rfl rfl rfl rfl rfl ?_
    refine o_guard_no rfl 38 rfl rfl rfl rfl rfl ?_
    refine o_pure (p_pick_true (u := .bool true) rfl rfl) rfl rfl rfl ?_
    exact o_sub (Sub.cons rfl (Sub.skip rfl (Sub.skip rfl (Sub.skip rfl (Sub.skip rfl (Sub.refl _)))))) hk
  refine o_pure (p_move (v := .bool (((Ws.check l window) != 0) || ((Lru.runErr (⟨window, []⟩ : DCache) l) != 0))) rfl) rfl rfl rfl ?_
  refine o_or (p := 45) 3 ((Opt.evErr l window) != 0) ?_ ?_ ?_
  · intro hb13 hk
    simp only [Bool.or_eq_false_iff, bne_eq_false_iff_eq] at hb13
    refine o_unguard 42 rfl rfl ?_
    refine o_pure (p_move (v := .int .i64 (Opt.evErr l window)) rfl) rfl rfl rfl ?_
    refine o_unguard 42 rfl rfl ?_
    refine o_pure (p_ne (p := (Opt.evErr l window)) (q := 0) rfl rfl) rfl rfl rfl ?_
    refine o_pure (p_pick_false (v := .bool ((Opt.evErr l window) != 0)) rfl rfl) rfl rfl rfl ?_
    exact o_sub (Sub.cons rfl (Sub.skip rfl (Sub.skip rfl (Sub.skip rfl (Sub.skip rfl (Sub.refl _)))))) hk
  · intro hb13 hk
    refine o_guard_no rfl 42 rfl rfl rfl rfl rfl ?_
    refine o_guard_no rfl 42 rfl rfl rfl rfl rfl ?_
    refine o_pure (p_pick_true (u := .bool true) rfl rfl) rfl rfl rfl ?_
    exact o_sub (Sub.cons rfl (Sub.skip rfl (Sub.skip rfl (Sub.skip rfl (Sub.skip rfl (Sub.refl _)))))) hk
  refine o_nil ?_
  refine q_then ?_
  refine c_cond (b := ((((Ws.check l window) != 0) || ((Lru.runErr (⟨window, []⟩ : DCache) l) != 0)) || ((Opt.evErr l window) != 0))) rfl (fun hc14 => ?_) (fun hc14 => ?_)
  · simp only [Bool.or_eq_true, bne_iff_ne, ne_eq] at hc14
    refine c_seq ?_
    refine c_region ?_
    refine o_pure (p_assign (v := .bool true) rfl) rfl rfl rfl ?_
    refine o_nil ?_
    refine q_then ?_
    refine c_ret ?_
    refine q_then_ret ?_
    refine q_end0 (v := .bool true) (rt1 rfl (r_tmp rfl)) (i := 3) rfl ?_
    exact rfl
  · simp only [Bool.or_eq_false_iff, bne_eq_false_iff_eq] at hc14
    have hall := hc14
    obtain ⟨⟨z1, z2⟩, z3⟩ := hall
    have q1 := Opt.beats_lru z3 z2
    obtain ⟨q2, q3, q4, q5⟩ := Ws.room_law z1 z2
    refine c_skip ?_
    refine q_then ?_
    refine c_seq ?_
    refine c_region ?_
    refine o_pure (p_move (v := .int .i64 ((Opt.ev l window).2)) rfl) rfl rfl rfl ?_
    refine o_pure (p_move (v := .slice al l.length cl) rfl) rfl rfl rfl ?_
    refine o_pure (p_len_slice (len := l.length) rfl rfl Try.underlying30) rfl rfl rfl ?_
    refine o_pure (p_move (v := .int .i64 ((Lru.run (⟨window, []⟩ : DCache) l).2)) rfl) rfl rfl rfl ?_
    refine o_pure (p_subb (p := (l.length : Int)) (q := ((Lru.run (⟨window, []⟩ : DCache) l).2)) rfl rfl (by omega)) rfl rfl rfl ?_
    refine o_pure (p_le (p := ((Opt.ev l window).2)) (q := ((l.length : Int) - ((Lru.run (⟨window, []⟩ : DCache) l).2))) rfl rfl) rfl rfl rfl ?_
    refine o_pure (p_move (v := .bool (decide (((Opt.ev l window).2) ≤ ((l.length : Int) - ((Lru.run (⟨window, []⟩ : DCache) l).2))))) rfl) rfl rfl rfl ?_
    refine o_and (p := 59) 7 (decide (((l.length : Int) - ((Lru.run (⟨window, []⟩ : DCache) l).2)) ≤ (Ws.faults l window))) ?_ ?_ ?_
    · intro hb15 hk
      simp only [decide_eq_true_eq] at hb15
      refine o_unguard 52 rfl rfl ?_
      refine o_pure (p_move (v := .slice al l.length cl) rfl) rfl rfl rfl ?_
      refine o_unguard 52 rfl rfl ?_
      refine o_pure (p_len_slice (len := l.length) rfl rfl Try.underlying30) rfl rfl rfl ?_
      refine o_unguard 52 rfl rfl ?_
      refine o_pure (p_move (v := .int .i64 ((Lru.run (⟨window, []⟩ : DCache) l).2)) rfl) rfl rfl rfl ?_
      refine o_unguard 52 rfl rfl ?_
      refine o_pure (p_subb (p := (l.length : Int)) (q := ((Lru.run (⟨window, []⟩ : DCache) l).2)) rfl rfl (by omega)) rfl rfl rfl ?_
      refine o_unguard 52 rfl rfl ?_
      refine o_pure (p_move (v := .int .i64 (Ws.faults l window)) rfl) rfl rfl rfl ?_
      refine o_unguard 52 rfl rfl ?_
      refine o_pure (p_le (p := ((l.length : Int) - ((Lru.run (⟨window, []⟩ : DCache) l).2))) (q := (Ws.faults l window)) rfl rfl) rfl rfl rfl ?_
      refine o_pure (p_pick_true (u := .bool (decide (((l.length : Int) - ((Lru.run (⟨window, []⟩ : DCache) l).2)) ≤ (Ws.faults l window)))) rfl rfl) rfl rfl rfl ?_
      exact o_sub (Sub.cons rfl (Sub.skip rfl (Sub.skip rfl (Sub.skip rfl (Sub.skip rfl (Sub.skip rfl (Sub.skip rfl (Sub.skip rfl (Sub.skip rfl (Sub.refl _)))))))))) hk
    · intro hb15 hk
      refine o_guard_no rfl 52 rfl rfl rfl rfl rfl ?_
      refine o_guard_no rfl 52 rfl rfl rfl rfl rfl ?_
      refine o_guard_no rfl 52 rfl rfl rfl rfl rfl ?_
      refine o_guard_no rfl 52 rfl rfl rfl rfl rfl ?_
      refine o_guard_no rfl 52 rfl rfl rfl rfl rfl ?_
      refine o_guard_no rfl 52 rfl rfl rfl rfl rfl ?_
      refine o_pure (p_pick_false (v := .bool false) rfl rfl) rfl rfl rfl ?_
      exact o_sub (Sub.cons rfl (Sub.skip rfl (Sub.skip rfl (Sub.skip rfl (Sub.skip rfl (Sub.skip rfl (Sub.skip rfl (Sub.skip rfl (Sub.skip rfl (Sub.refl _)))))))))) hk
    refine o_pure (p_assign (v := .bool (decide (((Opt.ev l window).2) ≤ ((l.length : Int) - ((Lru.run (⟨window, []⟩ : DCache) l).2))) && decide (((l.length : Int) - ((Lru.run (⟨window, []⟩ : DCache) l).2)) ≤ (Ws.faults l window)))) rfl) rfl rfl rfl ?_
    refine o_nil ?_
    refine q_then ?_
    refine c_ret ?_
    have hr0 : ((decide (((Opt.ev l window).2) ≤ ((l.length : Int) - ((Lru.run (⟨window, []⟩ : DCache) l).2))) && decide (((l.length : Int) - ((Lru.run (⟨window, []⟩ : DCache) l).2)) ≤ (Ws.faults l window))) : Bool) = true := by
      first | rfl | (simp only [Bool.and_eq_true, decide_eq_true_eq]; exact ⟨q1, q2⟩)
    refine q_end0 (v := .bool (decide (((Opt.ev l window).2) ≤ ((l.length : Int) - ((Lru.run (⟨window, []⟩ : DCache) l).2))) && decide (((l.length : Int) - ((Lru.run (⟨window, []⟩ : DCache) l).2)) ≤ (Ws.faults l window)))) (rt1 rfl (r_tmp rfl)) (i := 3) rfl ?_
    exact (by have hcc := congrArg (fun (y0 : Bool) => (.bool y0 : Value)) hr0; exact hcc)
end Go.Proofs.Ytkndekkacimekaa
