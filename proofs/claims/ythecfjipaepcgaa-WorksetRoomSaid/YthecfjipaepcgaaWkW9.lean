/- The walks, printed by a program from the translation and a specification. -/
import Derived.Test.YthecfjipaepcgaaWkF
import Derived.Test.YthecfjipaepcgaaWsLaw5
import Derived.Test.YthecfjipaepcgaaExLaw
import Derived.Test.YthecfjipaepcgaaWkW6
import Derived.Test.YthecfjipaepcgaaWkW8
namespace Go.Proofs.Ythecfjipaepcgaa
open Go.Sx Go.RowKit
set_option maxHeartbeats 8000000 in
set_option maxRecDepth 100000 in
theorem worksetRoom_ok (l : List Int) (al : Option Addr) (cl : Nat) (at_ : Int) (wd : Int) : Fn0 Try.prog 13 [.slice al l.length cl, .int .i64 at_, .int .i64 wd] (fun w => Rd tInt w al cl l) (.bool true) := by
  refine fn0 (nt := 96) (F0 := [(0, .slice al l.length cl), (1, .int .i64 at_), (2, .int .i64 wd)]) Try.func13 rfl Try.ntmps13 rfl rfl (fun w0 hpre => ?_)
  have hl := hpre
  have hlhl := hl.2.1
  refine c_seq ?_
  refine c_region ?_
  refine o_pure (p_assign (v := .bool false) rfl) rfl rfl rfl ?_
  refine o_nil ?_
  refine q_then ?_
  refine c_seq ?_
  refine c_region ?_
  refine o_pure (p_move (v := .slice al l.length cl) rfl) rfl rfl rfl ?_
  refine o_pure (p_move (v := .int .i64 wd) rfl) rfl rfl rfl ?_
  refine o_call0 (v := .tuple #[.int .i64 (Ws.faults l wd), .int .i64 (Ws.check l wd)]) rfl (wfaults_ok l al cl wd) hf42 (fun w hw => (rd_base (i := 0) rfl hl) w hw) rfl ?_
  refine o_pure (p_move (v := .tuple #[.int .i64 (Ws.faults l wd), .int .i64 (Ws.check l wd)]) rfl) rfl rfl rfl ?_
  refine o_pure (p_extract (vs := [.int .i64 (Ws.faults l wd), .int .i64 (Ws.check l wd)]) (v := .int .i64 (Ws.faults l wd)) rfl rfl) rfl rfl rfl ?_
  refine o_pure (p_extract (vs := [.int .i64 (Ws.faults l wd), .int .i64 (Ws.check l wd)]) (v := .int .i64 (Ws.check l wd)) rfl rfl) rfl rfl rfl ?_
  refine o_pure (p_assign (v := .int .i64 (Ws.faults l wd)) rfl) rfl rfl rfl ?_
  refine o_pure (p_assign (v := .int .i64 (Ws.check l wd)) rfl) rfl rfl rfl ?_
  refine o_nil ?_
  refine q_then ?_
  refine c_seq ?_
  refine c_seq ?_
  refine c_region ?_
  refine o_call0 (v := .bool true) rfl (workBegun_ok ) hf48 (fun _ _ => trivial) rfl ?_
  refine o_pure (p_not (b := true) rfl) rfl rfl rfl ?_
  refine o_nil ?_
  refine q_then ?_
  refine c_false rfl ?_
  refine c_skip ?_
  refine q_then ?_
  refine c_seq ?_
  refine c_seq ?_
  refine c_region ?_
  refine o_pure (p_move (v := .int .i64 (Ws.check l wd)) rfl) rfl rfl rfl ?_
  refine o_pure (p_ne (p := (Ws.check l wd)) (q := 0) rfl rfl) rfl rfl rfl ?_
  refine o_pure (p_move (v := .bool ((Ws.check l wd) != 0)) rfl) rfl rfl rfl ?_
  refine o_or (p := 31) 3 (decide (40 < wd)) ?_ ?_ ?_
  · intro hb1 hk
    simp only [bne_eq_false_iff_eq] at hb1
    refine o_unguard 28 rfl rfl ?_
    refine o_pure (p_move (v := .int .i64 wd) rfl) rfl rfl rfl ?_
    refine o_unguard 28 rfl rfl ?_
    refine o_pure (p_gt (p := wd) (q := 40) rfl rfl) rfl rfl rfl ?_
    refine o_pure (p_pick_false (v := .bool (decide (40 < wd))) rfl rfl) rfl rfl rfl ?_
    exact o_sub (Sub.cons rfl (Sub.skip rfl (Sub.skip rfl (Sub.skip rfl (Sub.skip rfl (Sub.refl _)))))) hk
  · intro hb1 hk
    refine o_guard_no rfl 28 rfl rfl rfl rfl rfl ?_
    refine o_guard_no rfl 28 rfl rfl rfl rfl rfl ?_
    refine o_pure (p_pick_true (u := .bool true) rfl rfl) rfl rfl rfl ?_
    exact o_sub (Sub.cons rfl (Sub.skip rfl (Sub.skip rfl (Sub.skip rfl (Sub.skip rfl (Sub.refl _)))))) hk
  refine o_nil ?_
  refine q_then ?_
  refine c_cond (b := (((Ws.check l wd) != 0) || decide (40 < wd))) rfl (fun hc2 => ?_) (fun hc2 => ?_)
  · simp only [Bool.or_eq_true, bne_iff_ne, ne_eq, decide_eq_true_eq] at hc2
    refine c_seq ?_
    refine c_region ?_
    refine o_pure (p_assign (v := .bool true) rfl) rfl rfl rfl ?_
    refine o_nil ?_
    refine q_then ?_
    refine c_ret ?_
    refine q_then_ret ?_
    refine q_end0 (v := .bool true) (rt1 rfl (r_tmp rfl)) (i := 0) rfl ?_
    exact rfl
  · simp only [Bool.or_eq_false_iff, bne_eq_false_iff_eq, decide_eq_false_iff_not, Int.not_lt] at hc2
    obtain ⟨z1, z2⟩ := hc2
    have z3 := Ws.lru_ok2 z1 (by omega)
    obtain ⟨q1, q2, q3, q4⟩ := Ws.room_law z1 z3
    refine c_skip ?_
    refine q_then ?_
    refine c_seq ?_
    refine c_region ?_
    refine o_pure (p_move (v := .int .i64 wd) rfl) rfl rfl rfl ?_
    refine o_pure (p_build (cells := [.int .i64 wd, .slice none 0 0]) fp74 ze74 rfl rfl) rfl rfl rfl ?_
    refine o_pure (p_move (v := .slice al l.length cl) rfl) rfl rfl rfl ?_
    refine o_callM rfl (lrun_ok (⟨wd, []⟩ : DCache) none 0 l al cl) hf49 (fun w hw => ⟨rd_nil w hw, (rd_base (i := 0) rfl hl) w hw⟩) rfl (fun _ _ _ _ ha hA => SlO.agree ha hA) ?_
    rintro ⟨a5, c6⟩ S3
    refine o_know (fun w hw => own_len (i := 0) (T := tInt) hw rfl) (fun hlr7 => ?_)
    refine o_pure (p_move (v := .tuple #[.agg #[.int .i64 (((Lru.run (⟨wd, []⟩ : DCache) l).1).room), .slice a5 (((Lru.run (⟨wd, []⟩ : DCache) l).1).keys).length c6], .int .i64 ((Lru.run (⟨wd, []⟩ : DCache) l).2), .int .i64 (Lru.runErr (⟨wd, []⟩ : DCache) l)]) rfl) rfl rfl rfl ?_
    refine o_pure (p_extract (vs := [.agg #[.int .i64 (((Lru.run (⟨wd, []⟩ : DCache) l).1).room), .slice a5 (((Lru.run (⟨wd, []⟩ : DCache) l).1).keys).length c6], .int .i64 ((Lru.run (⟨wd, []⟩ : DCache) l).2), .int .i64 (Lru.runErr (⟨wd, []⟩ : DCache) l)]) (v := .agg #[.int .i64 (((Lru.run (⟨wd, []⟩ : DCache) l).1).room), .slice a5 (((Lru.run (⟨wd, []⟩ : DCache) l).1).keys).length c6]) rfl rfl) rfl rfl rfl ?_
    refine o_pure (p_extract (vs := [.agg #[.int .i64 (((Lru.run (⟨wd, []⟩ : DCache) l).1).room), .slice a5 (((Lru.run (⟨wd, []⟩ : DCache) l).1).keys).length c6], .int .i64 ((Lru.run (⟨wd, []⟩ : DCache) l).2), .int .i64 (Lru.runErr (⟨wd, []⟩ : DCache) l)]) (v := .int .i64 ((Lru.run (⟨wd, []⟩ : DCache) l).2)) rfl rfl) rfl rfl rfl ?_
    refine o_pure (p_extract (vs := [.agg #[.int .i64 (((Lru.run (⟨wd, []⟩ : DCache) l).1).room), .slice a5 (((Lru.run (⟨wd, []⟩ : DCache) l).1).keys).length c6], .int .i64 ((Lru.run (⟨wd, []⟩ : DCache) l).2), .int .i64 (Lru.runErr (⟨wd, []⟩ : DCache) l)]) (v := .int .i64 (Lru.runErr (⟨wd, []⟩ : DCache) l)) rfl rfl) rfl rfl rfl ?_
    refine o_alloc ze74 rfl (fun B8 => ?_)
    refine o_storeN (i := 0) (vs := [.int .i64 (((Lru.run (⟨wd, []⟩ : DCache) l).1).room), .slice a5 (((Lru.run (⟨wd, []⟩ : DCache) l).1).keys).length c6]) (cs' := [.int .i64 (((Lru.run (⟨wd, []⟩ : DCache) l).1).room), .slice a5 (((Lru.run (⟨wd, []⟩ : DCache) l).1).keys).length c6]) rfl rfl rfl sz74 rfl rfl rfl rfl ?_
    refine o_pure (p_assign (v := .int .i64 ((Lru.run (⟨wd, []⟩ : DCache) l).2)) rfl) rfl rfl rfl ?_
    refine o_pure (p_assign (v := .int .i64 (Lru.runErr (⟨wd, []⟩ : DCache) l)) rfl) rfl rfl rfl ?_
    refine o_nil ?_
    refine q_then ?_
    refine c_seq ?_
    refine c_seq ?_
    refine c_region ?_
    refine o_pure (p_move (v := .int .i64 (Lru.runErr (⟨wd, []⟩ : DCache) l)) rfl) rfl rfl rfl ?_
    refine o_pure (p_ne (p := (Lru.runErr (⟨wd, []⟩ : DCache) l)) (q := 0) rfl rfl) rfl rfl rfl ?_
    refine o_pure (p_move (v := .bool ((Lru.runErr (⟨wd, []⟩ : DCache) l) != 0)) rfl) rfl rfl rfl ?_
    refine o_or (p := 49) 7 (decide ((Ws.faults l wd) < ((l.length : Int) - ((Lru.run (⟨wd, []⟩ : DCache) l).2)))) ?_ ?_ ?_
    · intro hb9 hk
      simp only [bne_eq_false_iff_eq] at hb9
      refine o_unguard 42 rfl rfl ?_
      refine o_pure (p_move (v := .slice al l.length cl) rfl) rfl rfl rfl ?_
      refine o_unguard 42 rfl rfl ?_
      refine o_pure (p_len_slice (len := l.length) rfl rfl Try.underlying45) rfl rfl rfl ?_
      refine o_unguard 42 rfl rfl ?_
      refine o_pure (p_move (v := .int .i64 ((Lru.run (⟨wd, []⟩ : DCache) l).2)) rfl) rfl rfl rfl ?_
      refine o_unguard 42 rfl rfl ?_
      refine o_pure (p_subb (p := (l.length : Int)) (q := ((Lru.run (⟨wd, []⟩ : DCache) l).2)) rfl rfl (by omega)) rfl rfl rfl ?_
      refine o_unguard 42 rfl rfl ?_
      refine o_pure (p_move (v := .int .i64 (Ws.faults l wd)) rfl) rfl rfl rfl ?_
      refine o_unguard 42 rfl rfl ?_
      refine o_pure (p_gt (p := ((l.length : Int) - ((Lru.run (⟨wd, []⟩ : DCache) l).2))) (q := (Ws.faults l wd)) rfl rfl) rfl rfl rfl ?_
      refine o_pure (p_pick_false (v := .bool (decide ((Ws.faults l wd) < ((l.length : Int) - ((Lru.run (⟨wd, []⟩ : DCache) l).2))))) rfl rfl) rfl rfl rfl ?_
      exact o_sub (Sub.cons rfl (Sub.skip rfl (Sub.skip rfl (Sub.skip rfl (Sub.skip rfl (Sub.skip rfl (Sub.skip rfl (Sub.skip rfl (Sub.skip rfl (Sub.refl _)))))))))) hk
    · intro hb9 hk
      refine o_guard_no rfl 42 rfl rfl rfl rfl rfl ?_
      refine o_guard_no rfl 42 rfl rfl rfl rfl rfl ?_
      refine o_guard_no rfl 42 rfl rfl rfl rfl rfl ?_
      refine o_guard_no rfl 42 rfl rfl rfl rfl rfl ?_
      refine o_guard_no rfl 42 rfl rfl rfl rfl rfl ?_
      refine o_guard_no rfl 42 rfl rfl rfl rfl rfl ?_
      refine o_pure (p_pick_true (u := .bool true) rfl rfl) rfl rfl rfl ?_
      exact o_sub (Sub.cons rfl (Sub.skip rfl (Sub.skip rfl (Sub.skip rfl (Sub.skip rfl (Sub.skip rfl (Sub.skip rfl (Sub.skip rfl (Sub.skip rfl (Sub.refl _)))))))))) hk
    refine o_nil ?_
    refine q_then ?_
    refine c_cond (b := (((Lru.runErr (⟨wd, []⟩ : DCache) l) != 0) || decide ((Ws.faults l wd) < ((l.length : Int) - ((Lru.run (⟨wd, []⟩ : DCache) l).2))))) rfl (fun hc10 => ?_) (fun hc10 => ?_)
    · simp only [Bool.or_eq_true, bne_iff_ne, ne_eq, decide_eq_true_eq] at hc10
      exfalso; rcases hc10 with h9 | h9; exact h9 z3; omega
    · simp only [Bool.or_eq_false_iff, bne_eq_false_iff_eq, decide_eq_false_iff_not, Int.not_lt] at hc10
      refine c_skip ?_
      refine q_then ?_
      refine c_seq ?_
      refine c_seq ?_
      refine c_region ?_
      refine o_pure (p_move (v := .int .i64 at_) rfl) rfl rfl rfl ?_
      refine o_pure (p_lt (p := at_) (q := 0) rfl rfl) rfl rfl rfl ?_
      refine o_pure (p_move (v := .bool (decide (at_ < 0))) rfl) rfl rfl rfl ?_
      refine o_or (p := 57) 5 (decide ((l.length : Int) ≤ at_)) ?_ ?_ ?_
      · intro hb11 hk
        simp only [decide_eq_false_iff_not, Int.not_lt] at hb11
        refine o_unguard 52 rfl rfl ?_
        refine o_pure (p_move (v := .int .i64 at_) rfl) rfl rfl rfl ?_
        refine o_unguard 52 rfl rfl ?_
        refine o_pure (p_move (v := .slice al l.length cl) rfl) rfl rfl rfl ?_
        refine o_unguard 52 rfl rfl ?_
        refine o_pure (p_len_slice (len := l.length) rfl rfl Try.underlying45) rfl rfl rfl ?_
        refine o_unguard 52 rfl rfl ?_
        refine o_pure (p_ge (p := at_) (q := (l.length : Int)) rfl rfl) rfl rfl rfl ?_
        refine o_pure (p_pick_false (v := .bool (decide ((l.length : Int) ≤ at_))) rfl rfl) rfl rfl rfl ?_
        exact o_sub (Sub.cons rfl (Sub.skip rfl (Sub.skip rfl (Sub.skip rfl (Sub.skip rfl (Sub.skip rfl (Sub.skip rfl (Sub.refl _)))))))) hk
      · intro hb11 hk
        refine o_guard_no rfl 52 rfl rfl rfl rfl rfl ?_
        refine o_guard_no rfl 52 rfl rfl rfl rfl rfl ?_
        refine o_guard_no rfl 52 rfl rfl rfl rfl rfl ?_
        refine o_guard_no rfl 52 rfl rfl rfl rfl rfl ?_
        refine o_pure (p_pick_true (u := .bool true) rfl rfl) rfl rfl rfl ?_
        exact o_sub (Sub.cons rfl (Sub.skip rfl (Sub.skip rfl (Sub.skip rfl (Sub.skip rfl (Sub.skip rfl (Sub.skip rfl (Sub.refl _)))))))) hk
      refine o_nil ?_
      refine q_then ?_
      refine c_cond (b := (decide (at_ < 0) || decide ((l.length : Int) ≤ at_))) rfl (fun hc12 => ?_) (fun hc12 => ?_)
      · simp only [Bool.or_eq_true, decide_eq_true_eq] at hc12
        refine c_seq ?_
        refine c_region ?_
        refine o_pure (p_assign (v := .bool true) rfl) rfl rfl rfl ?_
        refine o_nil ?_
        refine q_then ?_
        refine c_ret ?_
        refine q_then_ret ?_
        refine q_end0 (v := .bool true) (rt1 rfl (r_tmp rfl)) (i := 2) rfl ?_
        exact rfl
      · simp only [Bool.or_eq_false_iff, decide_eq_false_iff_not, Int.not_lt, Int.not_le] at hc12
        obtain ⟨y1, y2⟩ := hc12
        obtain ⟨y3, y4⟩ := Ws.room_keys z1 (by omega) (by omega : 0 ≤ at_) (by omega)
        have y5 := Ws.lru_ok z1 (by omega) (at_ + 1).toNat
        refine c_skip ?_
        refine q_then ?_
        refine c_seq ?_
        refine c_region ?_
        refine o_pure (p_move (v := .int .i64 wd) rfl) rfl rfl rfl ?_
        refine o_pure (p_build (cells := [.int .i64 wd, .slice none 0 0]) fp74 ze74 rfl rfl) rfl rfl rfl ?_
        refine o_pure (p_move (v := .slice al l.length cl) rfl) rfl rfl rfl ?_
        refine o_pure (p_move (v := .int .i64 at_) rfl) rfl rfl rfl ?_
        refine o_pure (p_addb (p := at_) (q := 1) rfl rfl (by omega)) rfl rfl rfl ?_
        refine o_pure (p_sliceH (L := l) (T := tInt) (h := (at_ + 1)) rfl rfl Try.underlying45 sz3 (by omega) (by omega) (rd_base (i := 2) rfl hl)) rfl rfl rfl ?_
        refine o_callM rfl (lrun_ok (⟨wd, []⟩ : DCache) none 0 (l.take ((at_ + 1).toNat)) al cl) hf49 (fun w hw => ⟨rd_nil w hw, (rd_takeC (hi := (at_ + 1).toNat) (rd_base (i := 2) rfl hl) (by omega)) w hw⟩) rfl (fun _ _ _ _ ha hA => SlO.agree ha hA) ?_
        rintro ⟨a15, c16⟩ S13
        refine o_know (fun w hw => own_len (i := 0) (T := tInt) hw rfl) (fun hlr17 => ?_)
        refine o_pure (p_move (v := .tuple #[.agg #[.int .i64 (((Lru.run (⟨wd, []⟩ : DCache) (l.take ((at_ + 1).toNat))).1).room), .slice a15 (((Lru.run (⟨wd, []⟩ : DCache) (l.take ((at_ + 1).toNat))).1).keys).length c16], .int .i64 ((Lru.run (⟨wd, []⟩ : DCache) (l.take ((at_ + 1).toNat))).2), .int .i64 (Lru.runErr (⟨wd, []⟩ : DCache) (l.take ((at_ + 1).toNat)))]) rfl) rfl rfl rfl ?_
        refine o_pure (p_extract (vs := [.agg #[.int .i64 (((Lru.run (⟨wd, []⟩ : DCache) (l.take ((at_ + 1).toNat))).1).room), .slice a15 (((Lru.run (⟨wd, []⟩ : DCache) (l.take ((at_ + 1).toNat))).1).keys).length c16], .int .i64 ((Lru.run (⟨wd, []⟩ : DCache) (l.take ((at_ + 1).toNat))).2), .int .i64 (Lru.runErr (⟨wd, []⟩ : DCache) (l.take ((at_ + 1).toNat)))]) (v := .agg #[.int .i64 (((Lru.run (⟨wd, []⟩ : DCache) (l.take ((at_ + 1).toNat))).1).room), .slice a15 (((Lru.run (⟨wd, []⟩ : DCache) (l.take ((at_ + 1).toNat))).1).keys).length c16]) rfl rfl) rfl rfl rfl ?_
        refine o_pure (p_extract (vs := [.agg #[.int .i64 (((Lru.run (⟨wd, []⟩ : DCache) (l.take ((at_ + 1).toNat))).1).room), .slice a15 (((Lru.run (⟨wd, []⟩ : DCache) (l.take ((at_ + 1).toNat))).1).keys).length c16], .int .i64 ((Lru.run (⟨wd, []⟩ : DCache) (l.take ((at_ + 1).toNat))).2), .int .i64 (Lru.runErr (⟨wd, []⟩ : DCache) (l.take ((at_ + 1).toNat)))]) (v := .int .i64 ((Lru.run (⟨wd, []⟩ : DCache) (l.take ((at_ + 1).toNat))).2)) rfl rfl) rfl rfl rfl ?_
        refine o_pure (p_extract (vs := [.agg #[.int .i64 (((Lru.run (⟨wd, []⟩ : DCache) (l.take ((at_ + 1).toNat))).1).room), .slice a15 (((Lru.run (⟨wd, []⟩ : DCache) (l.take ((at_ + 1).toNat))).1).keys).length c16], .int .i64 ((Lru.run (⟨wd, []⟩ : DCache) (l.take ((at_ + 1).toNat))).2), .int .i64 (Lru.runErr (⟨wd, []⟩ : DCache) (l.take ((at_ + 1).toNat)))]) (v := .int .i64 (Lru.runErr (⟨wd, []⟩ : DCache) (l.take ((at_ + 1).toNat)))) rfl rfl) rfl rfl rfl ?_
        refine o_alloc ze74 rfl (fun B18 => ?_)
        refine o_storeN (i := 0) (vs := [.int .i64 (((Lru.run (⟨wd, []⟩ : DCache) (l.take ((at_ + 1).toNat))).1).room), .slice a15 (((Lru.run (⟨wd, []⟩ : DCache) (l.take ((at_ + 1).toNat))).1).keys).length c16]) (cs' := [.int .i64 (((Lru.run (⟨wd, []⟩ : DCache) (l.take ((at_ + 1).toNat))).1).room), .slice a15 (((Lru.run (⟨wd, []⟩ : DCache) (l.take ((at_ + 1).toNat))).1).keys).length c16]) rfl rfl rfl sz74 rfl rfl rfl rfl ?_
        refine o_pure (p_assign (v := .int .i64 ((Lru.run (⟨wd, []⟩ : DCache) (l.take ((at_ + 1).toNat))).2)) rfl) rfl rfl rfl ?_
        refine o_pure (p_assign (v := .int .i64 (Lru.runErr (⟨wd, []⟩ : DCache) (l.take ((at_ + 1).toNat)))) rfl) rfl rfl rfl ?_
        refine o_nil ?_
        refine q_then ?_
        refine c_seq ?_
        refine c_region ?_
        refine o_pure (p_move (v := .slice al l.length cl) rfl) rfl rfl rfl ?_
        refine o_pure (p_move (v := .int .i64 at_) rfl) rfl rfl rfl ?_
        refine o_pure (p_move (v := .int .i64 wd) rfl) rfl rfl rfl ?_
        refine o_callM rfl (wset_ok l al cl at_ wd) hf40 (fun w hw => (rd_base (i := 4) rfl hl) w hw) rfl (fun _ _ _ _ ha hA => SlO.agree ha hA) ?_
        rintro ⟨a21, c22⟩ S19
        refine o_know (fun w hw => own_len (i := 0) (T := tInt) hw rfl) (fun hlr23 => ?_)
        refine o_pure (p_move (v := .tuple #[.slice a21 (Ws.setR l at_ wd).length c22, .int .i64 (Ws.setErr l at_ wd)]) rfl) rfl rfl rfl ?_
        refine o_pure (p_extract (vs := [.slice a21 (Ws.setR l at_ wd).length c22, .int .i64 (Ws.setErr l at_ wd)]) (v := .slice a21 (Ws.setR l at_ wd).length c22) rfl rfl) rfl rfl rfl ?_
        refine o_pure (p_extract (vs := [.slice a21 (Ws.setR l at_ wd).length c22, .int .i64 (Ws.setErr l at_ wd)]) (v := .int .i64 (Ws.setErr l at_ wd)) rfl rfl) rfl rfl rfl ?_
        refine o_pure (p_assign (v := .slice a21 (Ws.setR l at_ wd).length c22) rfl) rfl rfl rfl ?_
        refine o_pure (p_assign (v := .int .i64 (Ws.setErr l at_ wd)) rfl) rfl rfl rfl ?_
        refine o_nil ?_
        refine q_then ?_
        refine c_seq ?_
        refine c_seq ?_
        refine c_region ?_
        refine o_pure (p_assign (v := .int .i64 0) rfl) rfl rfl rfl ?_
        refine o_nil ?_
        refine q_then ?_
        refine c_block ?_
        refine c_loop (St := Nat)
          (fun i => [(12, .pointer (some ⟨B18, 0, none⟩)), (14, .int .i64 (Lru.runErr (⟨wd, []⟩ : DCache) (l.take ((at_ + 1).toNat)))), (15, .slice a21 (Ws.setR l at_ wd).length c22), (16, .int .i64 (Ws.setErr l at_ wd)), (17, .int .i64 (i : Int))])
          (fun i => [own tInt S19 a21 c22 (Ws.setR l at_ wd), box B18 [.int .i64 (((Lru.run (⟨wd, []⟩ : DCache) (l.take ((at_ + 1).toNat))).1).room), .slice a15 (((Lru.run (⟨wd, []⟩ : DCache) (l.take ((at_ + 1).toNat))).1).keys).length c16] 74, own tInt S13 a15 c16 (((Lru.run (⟨wd, []⟩ : DCache) (l.take ((at_ + 1).toNat))).1).keys), box B8 [.int .i64 (((Lru.run (⟨wd, []⟩ : DCache) l).1).room), .slice a5 (((Lru.run (⟨wd, []⟩ : DCache) l).1).keys).length c6] 74, own tInt S3 a5 c6 (((Lru.run (⟨wd, []⟩ : DCache) l).1).keys), base w0])
          (fun i => i ≤ (Ws.setR l at_ wd).length)
          (fun i => (Ws.setR l at_ wd).length - i)
          0 ?_ (Sub.cons rfl (Sub.cons rfl (Sub.cons rfl (Sub.cons rfl (Sub.cons rfl (Sub.nil _)))))) (fun _ hw => hw) ?_
        · exact Nat.zero_le _
        rintro i hI K hK24
        show SC _ _ Try.prog 96 w0 _ _ [(12, .pointer (some ⟨B18, 0, none⟩)), (14, .int .i64 (Lru.runErr (⟨wd, []⟩ : DCache) (l.take ((at_ + 1).toNat)))), (15, .slice a21 (Ws.setR l at_ wd).length c22), (16, .int .i64 (Ws.setErr l at_ wd)), (17, .int .i64 (i : Int))] [own tInt S19 a21 c22 (Ws.setR l at_ wd), box B18 [.int .i64 (((Lru.run (⟨wd, []⟩ : DCache) (l.take ((at_ + 1).toNat))).1).room), .slice a15 (((Lru.run (⟨wd, []⟩ : DCache) (l.take ((at_ + 1).toNat))).1).keys).length c16] 74, own tInt S13 a15 c16 (((Lru.run (⟨wd, []⟩ : DCache) (l.take ((at_ + 1).toNat))).1).keys), box B8 [.int .i64 (((Lru.run (⟨wd, []⟩ : DCache) l).1).room), .slice a5 (((Lru.run (⟨wd, []⟩ : DCache) l).1).keys).length c6] 74, own tInt S3 a5 c6 (((Lru.run (⟨wd, []⟩ : DCache) l).1).keys), base w0]
        refine c_seq ?_
        refine c_seq ?_
        refine c_region ?_
        refine o_pure (p_move (v := .int .i64 (i : Int)) rfl) rfl rfl rfl ?_
        refine o_pure (p_move (v := .slice a21 (Ws.setR l at_ wd).length c22) rfl) rfl rfl rfl ?_
        refine o_pure (p_len_slice (len := (Ws.setR l at_ wd).length) rfl rfl Try.underlying45) rfl rfl rfl ?_
        refine o_pure (p_lt (p := (i : Int)) (q := ((Ws.setR l at_ wd).length : Int)) rfl rfl) rfl rfl rfl ?_
        refine o_nil ?_
        refine q_then ?_
        refine c_cond (b := decide ((i : Int) < ((Ws.setR l at_ wd).length : Int))) rfl (fun hc25 => ?_) (fun hc25 => ?_)
        · simp only [decide_eq_true_eq] at hc25
          refine c_skip ?_
          refine q_then ?_
          refine c_seq ?_
          refine c_block ?_
          refine c_seq ?_
          refine c_draw hmix (by kernel_rfl) ?_
          refine w_pure (p_fieldAddr (B := B18) (j := 0) (j' := 1) rfl fo74_1 rfl) rfl rfl rfl ?_
          refine w_pure (p_load (i := 1) (v := .slice a15 (((Lru.run (⟨wd, []⟩ : DCache) (l.take ((at_ + 1).toNat))).1).keys).length c16) rfl rfl sh45 rfl) rfl rfl rfl ?_
          refine w_pure (p_move (v := .slice a21 (Ws.setR l at_ wd).length c22) rfl) rfl rfl rfl ?_
          refine w_pure (p_move (v := .int .i64 (i : Int)) rfl) rfl rfl rfl ?_
          refine w_pure (p_indexAddr (L := (Ws.setR l at_ wd)) (T := tInt) (i := (i : Int)) rfl rfl (rd_own (i := 0) rfl) Try.underlying45 sz3 (by omega) (by omega)) rfl rfl rfl ?_
          refine w_pure (p_loadE1 (i := i) (T := tInt) (L := (Ws.setR l at_ wd)) (v := .int .i64 ((Ws.setR l at_ wd)[i])) rfl (rd_own (i := 0) rfl) (by first | assumption | omega) sh3 rfl) rfl rfl rfl ?_
          refine w_call0 (v := .bool (Ref.hasInt (((Lru.run (⟨wd, []⟩ : DCache) (l.take ((at_ + 1).toNat))).1).keys) ((Ws.setR l at_ wd)[i]))) rfl (hasInt_ok (((Lru.run (⟨wd, []⟩ : DCache) (l.take ((at_ + 1).toNat))).1).keys) a15 c16 ((Ws.setR l at_ wd)[i])) hf34 (fun w hw => (rd_own (i := 2) rfl) w hw) rfl ?_
          refine w_pure (p_not (b := (Ref.hasInt (((Lru.run (⟨wd, []⟩ : DCache) (l.take ((at_ + 1).toNat))).1).keys) ((Ws.setR l at_ wd)[i]))) rfl) rfl rfl rfl ?_
          refine w_nil ?_
          refine q_then ?_
          refine c_cond (b := (!(Ref.hasInt (((Lru.run (⟨wd, []⟩ : DCache) (l.take ((at_ + 1).toNat))).1).keys) ((Ws.setR l at_ wd)[i])))) rfl (fun hc26 => ?_) (fun hc26 => ?_)
          · simp only [Bool.not_eq_true'] at hc26
            exfalso; have h9 := y4 (Ws.setR l at_ wd)[i] (List.getElem_mem (by omega)); simp_all
          · simp only [Bool.not_eq_false'] at hc26
            refine c_skip ?_
            refine q_block_normal (q_then ?_)
            refine c_region ?_
            refine o_pure (p_move (v := .int .i64 (i : Int)) rfl) rfl rfl rfl ?_
            refine o_pure (p_addb (p := (i : Int)) (q := 1) rfl rfl (by omega)) rfl rfl rfl ?_
            refine o_pure (p_assign (v := .int .i64 ((i : Int) + 1)) rfl) rfl rfl rfl ?_
            refine o_nil ?_
            refine q_round hK24 (i + 1) ?_ ?_ ?_ ?_
            · clear hK24
              (try dsimp only); omega
            · (try dsimp only); omega
            · exact Sub.cons rfl (Sub.cons rfl (Sub.cons rfl (Sub.cons rfl (Sub.cons rfl (Sub.nil _)))))
            · exact fun _ hw => HeapIs.pick hw [0, 1, 2, 3, 4, 5] (by decide) rfl
        · simp only [decide_eq_false_iff_not, Int.not_lt] at hc25
          refine c_exit ?_
          refine q_then_exit (q_then_exit (q_block_exit (q_then ?_)))
          refine c_seq ?_
          refine c_region ?_
          refine o_pure (p_move (v := .int .i64 (Lru.runErr (⟨wd, []⟩ : DCache) (l.take ((at_ + 1).toNat)))) rfl) rfl rfl rfl ?_
          refine o_pure (p_eq (p := (Lru.runErr (⟨wd, []⟩ : DCache) (l.take ((at_ + 1).toNat)))) (q := 0) rfl rfl) rfl rfl rfl ?_
          refine o_pure (p_move (v := .bool ((Lru.runErr (⟨wd, []⟩ : DCache) (l.take ((at_ + 1).toNat))) == 0)) rfl) rfl rfl rfl ?_
          refine o_and (p := 95) 3 ((Ws.setErr l at_ wd) == 0) ?_ ?_ ?_
          · intro hb27 hk
            simp only [beq_iff_eq] at hb27
            refine o_unguard 92 rfl rfl ?_
            refine o_pure (p_move (v := .int .i64 (Ws.setErr l at_ wd)) rfl) rfl rfl rfl ?_
            refine o_unguard 92 rfl rfl ?_
            refine o_pure (p_eq (p := (Ws.setErr l at_ wd)) (q := 0) rfl rfl) rfl rfl rfl ?_
            refine o_pure (p_pick_true (u := .bool ((Ws.setErr l at_ wd) == 0)) rfl rfl) rfl rfl rfl ?_
            exact o_sub (Sub.cons rfl (Sub.skip rfl (Sub.skip rfl (Sub.skip rfl (Sub.skip rfl (Sub.refl _)))))) hk
          · intro hb27 hk
            refine o_guard_no rfl 92 rfl rfl rfl rfl rfl ?_
            refine o_guard_no rfl 92 rfl rfl rfl rfl rfl ?_
            refine o_pure (p_pick_false (v := .bool false) rfl rfl) rfl rfl rfl ?_
            exact o_sub (Sub.cons rfl (Sub.skip rfl (Sub.skip rfl (Sub.skip rfl (Sub.skip rfl (Sub.refl _)))))) hk
          refine o_pure (p_assign (v := .bool (((Lru.runErr (⟨wd, []⟩ : DCache) (l.take ((at_ + 1).toNat))) == 0) && ((Ws.setErr l at_ wd) == 0))) rfl) rfl rfl rfl ?_
          refine o_nil ?_
          refine q_then ?_
          refine c_ret ?_
          have hr0 : ((((Lru.runErr (⟨wd, []⟩ : DCache) (l.take ((at_ + 1).toNat))) == 0) && ((Ws.setErr l at_ wd) == 0)) : Bool) = true := by
            first | rfl | (simp only [y3, y5]; rfl)
          refine q_end0 (v := .bool (((Lru.runErr (⟨wd, []⟩ : DCache) (l.take ((at_ + 1).toNat))) == 0) && ((Ws.setErr l at_ wd) == 0))) (rt1 rfl (r_tmp rfl)) (i := 5) rfl ?_
          exact (by have hcc := congrArg (fun (y0 : Bool) => (.bool y0 : Value)) hr0; exact hcc)
end Go.Proofs.Ythecfjipaepcgaa
