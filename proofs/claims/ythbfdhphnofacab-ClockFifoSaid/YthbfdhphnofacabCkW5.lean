/- The walks, printed by a program from the translation and a specification. -/
import Derived.Test.YthbfdhphnofacabCkF
import Derived.Test.YthbfdhphnofacabCkLaw
import Derived.Test.YthbfdhphnofacabCkW1
namespace Go.Proofs.Ythbfdhphnofacab
open Go.Sx Go.RowKit
set_option maxHeartbeats 8000000 in
set_option maxRecDepth 100000 in
theorem frameKeys_ok (l : List DFrame) (al : Option Addr) (cl : Nat) (hy1 : l.length ≤ 1000000) : FnM Try.prog 83 [.slice al l.length cl] (fun w => Rd tFrame w al cl l) (Option Addr × Nat) (fun p => .slice p.1 (Clock.keysOf l).length p.2) (fun p S w => SlO tInt S w p.1 p.2 (Clock.keysOf l)) := by
  refine fnM (nt := 20) (F0 := [(0, .slice al l.length cl)]) Try.func83 rfl Try.ntmps83 rfl rfl (fun w0 hpre => ?_)
  have hl := hpre
  have hlhl := hl.2.1
  refine c_seq ?_
  refine c_region ?_
  refine o_pure (p_assign (v := .slice none 0 0) rfl) rfl rfl rfl ?_
  refine o_nil ?_
  refine q_then ?_
  refine c_seq ?_
  refine c_region ?_
  refine o_pure (p_assign (v := .slice none 0 0) rfl) rfl rfl rfl ?_
  refine o_nil ?_
  refine q_then ?_
  refine c_seq ?_
  refine c_seq ?_
  refine c_region ?_
  refine o_pure (p_assign (v := .int .i64 0) rfl) rfl rfl rfl ?_
  refine o_nil ?_
  refine q_then ?_
  refine c_block ?_
  refine c_ownNil tInt ?_
  refine c_loop (St := List Int × Option Addr × Nat × (Nat → Prop) × Nat)
    (fun ⟨out, aout, cout, Sout, i⟩ => [(0, .slice al l.length cl), (3, .slice aout out.length cout), (4, .int .i64 (i : Int))])
    (fun ⟨out, aout, cout, Sout, i⟩ => [own tInt Sout aout cout out, base w0])
    (fun ⟨out, aout, cout, Sout, i⟩ => i ≤ l.length ∧ out = Clock.keysOf (l.take i))
    (fun ⟨out, aout, cout, Sout, i⟩ => l.length - i)
    ([], none, 0, (fun _ => False), 0) ?_ (Sub.cons rfl (Sub.cons rfl (Sub.cons rfl (Sub.nil _)))) (fun _ hw => hw) ?_
  · exact ⟨Nat.zero_le _, rfl⟩
  rintro ⟨out, aout, cout, Sout, i⟩ hI K hK2
  obtain ⟨hI1, hI2⟩ := hI
  have hol : out.length = i := by rw [hI2]; simp [Clock.keysOf]; omega
  show SC _ _ Try.prog 20 w0 _ _ [(0, .slice al l.length cl), (3, .slice aout out.length cout), (4, .int .i64 (i : Int))] [own tInt Sout aout cout out, base w0]
  refine c_seq ?_
  refine c_seq ?_
  refine c_region ?_
  refine o_pure (p_move (v := .int .i64 (i : Int)) rfl) rfl rfl rfl ?_
  refine o_pure (p_move (v := .slice al l.length cl) rfl) rfl rfl rfl ?_
  refine o_pure (p_len_slice (len := l.length) rfl rfl Try.underlying57) rfl rfl rfl ?_
  refine o_pure (p_lt (p := (i : Int)) (q := (l.length : Int)) rfl rfl) rfl rfl rfl ?_
  refine o_nil ?_
  refine q_then ?_
  refine c_cond (b := decide ((i : Int) < (l.length : Int))) rfl (fun hc3 => ?_) (fun hc3 => ?_)
  · simp only [decide_eq_true_eq] at hc3
    refine c_skip ?_
    refine q_then ?_
    refine c_seq ?_
    refine c_block ?_
    refine c_region ?_
    refine o_pure (p_move (v := .slice aout out.length cout) rfl) rfl rfl rfl ?_
    refine o_pure (p_move (v := .slice al l.length cl) rfl) rfl rfl rfl ?_
    refine o_pure (p_move (v := .int .i64 (i : Int)) rfl) rfl rfl rfl ?_
    refine o_pure (p_indexAddr (L := l) (T := tFrame) (i := (i : Int)) rfl rfl (rd_base (i := 1) rfl hl) Try.underlying57 sz73 (by omega) (by omega)) rfl rfl rfl ?_
    refine o_pure (p_fieldAddrE rfl fo73_0) rfl rfl rfl ?_
    refine o_pure (p_loadF (i := i) (j := 0) (T := tFrame) (L := l) (v := .int .i64 ((l[i]).key)) rfl (rd_base (i := 1) rfl hl) (by first | assumption | omega) sh3 rfl) rfl rfl rfl ?_
    refine o_buildSlice (m := 1) (T := tInt) (L := [(l[i]).key]) (vs := [.int .i64 ((l[i]).key)]) rfl rfl rfl rfl Try.underlying22 sz3 (by decide) ze3 rfl (by decide) rfl (fun S4 a5 => ?_)
    refine o_append (i := 1) (L := out) (M := [(l[i]).key]) (T := tInt) rfl rfl rfl (rd_own (i := 0) rfl) Try.underlying22 Try.underlying22 (by intro k h; cases h) el3 (by intro z; simp [tInt, one1]) (by decide) (by simp only [List.length_cons, List.length_nil]; omega) rfl (fun a7 c8 S9 => ?_)
    refine o_pure (p_assign (v := .slice a7 (out ++ [(l[i]).key]).length c8) rfl) rfl rfl rfl ?_
    refine o_nil ?_
    refine q_block_normal (q_then ?_)
    refine c_region ?_
    refine o_pure (p_move (v := .int .i64 (i : Int)) rfl) rfl rfl rfl ?_
    refine o_pure (p_addb (p := (i : Int)) (q := 1) rfl rfl (by omega)) rfl rfl rfl ?_
    refine o_pure (p_assign (v := .int .i64 ((i : Int) + 1)) rfl) rfl rfl rfl ?_
    refine o_nil ?_
    refine q_round hK2 ((out ++ [(l[i]).key]), a7, c8, S9, i + 1) ?_ ?_ ?_ ?_
    · clear hK2
      refine ⟨by omega, ?_⟩
      subst hI2
      rw [List.take_succ_eq_append_getElem (by omega)]; unfold Clock.keysOf; rw [List.map_append]; rfl
    · (try dsimp only); omega
    · exact Sub.cons rfl (Sub.cons rfl (Sub.cons rfl (Sub.nil _)))
    · exact fun _ hw => HeapIs.pick hw [1, 2] (by decide) rfl
  · simp only [decide_eq_false_iff_not, Int.not_lt] at hc3
    refine c_exit ?_
    refine q_then_exit (q_then_exit (q_block_exit (q_then ?_)))
    refine c_seq ?_
    refine c_region ?_
    refine o_pure (p_move (v := .slice aout out.length cout) rfl) rfl rfl rfl ?_
    refine o_pure (p_assign (v := .slice aout out.length cout) rfl) rfl rfl rfl ?_
    refine o_nil ?_
    refine q_then ?_
    refine c_ret ?_
    have hr0 : (out : List Int) = (Clock.keysOf l) := by
      rw [hI2, List.take_of_length_le (by omega)]
    refine q_endM (p := (aout, cout)) Sout (rt1 rfl (r_tmp rfl)) (i := 1) rfl ?_ ?_ ?_
    · exact (by have hcc := congrArg (fun (y0 : List Int) => (.slice aout y0.length cout : Value)) hr0; exact hcc)
    · exact fun w hw => hw.above (i := 1) (j := 0) (by decide) rfl rfl
    · intro w hw; exact Eq.mp (congrArg (fun y => SlO tInt _ w aout cout y) hr0) ((hw.at (i := 0) rfl).here)

set_option maxHeartbeats 8000000 in
set_option maxRecDepth 100000 in
theorem clockCheck_ok (c : DClock) (ac_0 : Option Addr) (cc_0 : Nat) : Fn0 Try.prog 40 [.agg #[.int .i64 c.room, .int .i64 c.hand, .slice ac_0 c.frames.length cc_0]] (fun w => Rd tFrame w ac_0 cc_0 c.frames) (.int .i64 (Clock.check c)) := by
  refine fn0 (nt := 46) (F0 := [(0, .agg #[.int .i64 c.room, .int .i64 c.hand, .slice ac_0 c.frames.length cc_0])]) Try.func40 rfl Try.ntmps40 rfl rfl (fun w0 hpre => ?_)
  have hc_0 := hpre
  have hlhc_0 := hc_0.2.1
  refine c_seq ?_
  refine c_region ?_
  refine o_box (v := .agg #[.int .i64 c.room, .int .i64 c.hand, .slice ac_0 c.frames.length cc_0]) rfl rfl (fun B1 => ?_)
  refine o_pure (p_assign (v := .int .i64 0) rfl) rfl rfl rfl ?_
  refine o_nil ?_
  refine q_then ?_
  refine c_seq ?_
  refine c_seq ?_
  refine c_region ?_
  refine o_pure (p_fieldAddr (B := B1) (j := 0) (j' := 0) rfl fo59_0 rfl) rfl rfl rfl ?_
  refine o_pure (p_load (i := 0) (v := .int .i64 c.room) rfl rfl sh3 rfl) rfl rfl rfl ?_
  refine o_call0 (v := .bool (Ref.between c.room (1 : Int) (40 : Int))) rfl (between_ok c.room (1 : Int) (40 : Int)) hf66 (fun _ _ => trivial) rfl ?_
  refine o_pure (p_not (b := (Ref.between c.room (1 : Int) (40 : Int))) rfl) rfl rfl rfl ?_
  refine o_nil ?_
  refine q_then ?_
  refine c_cond (b := (!(Ref.between c.room (1 : Int) (40 : Int)))) rfl (fun hc2 => ?_) (fun hc2 => ?_)
  · simp only [Bool.not_eq_true'] at hc2
    refine c_seq ?_
    refine c_region ?_
    refine o_pure (p_assign (v := .int .i64 3) rfl) rfl rfl rfl ?_
    refine o_nil ?_
    refine q_then ?_
    refine c_ret ?_
    refine q_then_ret ?_
    have hr0 : (3 : Int) = (Clock.check c) := by
      simp only [Clock.check, Ref.between, Lru.okRoom] at *; grind
    refine q_end0 (v := .int .i64 3) (rt1 rfl (r_tmp rfl)) (i := 1) rfl ?_
    exact (by have hcc := congrArg (fun (y0 : Int) => (.int .i64 y0 : Value)) hr0; exact hcc)
  · simp only [Bool.not_eq_false'] at hc2
    have hroom : 1 ≤ c.room ∧ c.room ≤ 40 := by simpa [Ref.between] using hc2
    refine c_skip ?_
    refine q_then ?_
    refine c_seq ?_
    refine c_seq ?_
    refine c_region ?_
    refine o_pure (p_fieldAddr (B := B1) (j := 0) (j' := 2) rfl fo59_2 rfl) rfl rfl rfl ?_
    refine o_pure (p_load (i := 0) (v := .slice ac_0 c.frames.length cc_0) rfl rfl sh57 rfl) rfl rfl rfl ?_
    refine o_pure (p_len_slice (len := c.frames.length) rfl rfl Try.underlying57) rfl rfl rfl ?_
    refine o_pure (p_fieldAddr (B := B1) (j := 0) (j' := 0) rfl fo59_0 rfl) rfl rfl rfl ?_
    refine o_pure (p_load (i := 0) (v := .int .i64 c.room) rfl rfl sh3 rfl) rfl rfl rfl ?_
    refine o_pure (p_gt (p := (c.frames.length : Int)) (q := c.room) rfl rfl) rfl rfl rfl ?_
    refine o_nil ?_
    refine q_then ?_
    refine c_cond (b := decide (c.room < (c.frames.length : Int))) rfl (fun hc3 => ?_) (fun hc3 => ?_)
    · simp only [decide_eq_true_eq] at hc3
      refine c_seq ?_
      refine c_region ?_
      refine o_pure (p_assign (v := .int .i64 2) rfl) rfl rfl rfl ?_
      refine o_nil ?_
      refine q_then ?_
      refine c_ret ?_
      refine q_then_ret ?_
      have hr0 : (2 : Int) = (Clock.check c) := by
        simp only [Clock.check, Ref.between, Lru.okRoom] at *; grind
      refine q_end0 (v := .int .i64 2) (rt1 rfl (r_tmp rfl)) (i := 1) rfl ?_
      exact (by have hcc := congrArg (fun (y0 : Int) => (.int .i64 y0 : Value)) hr0; exact hcc)
    · simp only [decide_eq_false_iff_not, Int.not_lt] at hc3
      refine c_skip ?_
      refine q_then ?_
      refine c_seq ?_
      refine c_region ?_
      refine o_pure (p_fieldAddr (B := B1) (j := 0) (j' := 2) rfl fo59_2 rfl) rfl rfl rfl ?_
      refine o_pure (p_load (i := 0) (v := .slice ac_0 c.frames.length cc_0) rfl rfl sh57 rfl) rfl rfl rfl ?_
      refine o_callM rfl (frameKeys_ok c.frames ac_0 cc_0 (by omega)) hf83 (fun w hw => (rd_base (i := 1) rfl hc_0) w hw) rfl (fun _ _ _ _ ha hA => SlO.agree ha hA) ?_
      rintro ⟨a6, c7⟩ S4
      refine o_call0 (v := .int .i64 (Lru.keys (Clock.keysOf c.frames))) rfl (keysOnce_ok (Clock.keysOf c.frames) a6 c7) hf82 (fun w hw => (rd_own (i := 0) rfl) w hw) rfl ?_
      refine o_pure (p_assign (v := .int .i64 (Lru.keys (Clock.keysOf c.frames))) rfl) rfl rfl rfl ?_
      refine o_nil ?_
      refine q_then ?_
      refine c_seq ?_
      refine c_seq ?_
      refine c_region ?_
      refine o_pure (p_move (v := .int .i64 (Lru.keys (Clock.keysOf c.frames))) rfl) rfl rfl rfl ?_
      refine o_pure (p_ne (p := (Lru.keys (Clock.keysOf c.frames))) (q := 0) rfl rfl) rfl rfl rfl ?_
      refine o_nil ?_
      refine q_then ?_
      refine c_cond (b := ((Lru.keys (Clock.keysOf c.frames)) != 0)) rfl (fun hc8 => ?_) (fun hc8 => ?_)
      · simp only [bne_iff_ne, ne_eq] at hc8
        refine c_seq ?_
        refine c_region ?_
        refine o_pure (p_move (v := .int .i64 (Lru.keys (Clock.keysOf c.frames))) rfl) rfl rfl rfl ?_
        refine o_pure (p_assign (v := .int .i64 (Lru.keys (Clock.keysOf c.frames))) rfl) rfl rfl rfl ?_
        refine o_nil ?_
        refine q_then ?_
        refine c_ret ?_
        refine q_then_ret ?_
        have hr0 : ((Lru.keys (Clock.keysOf c.frames)) : Int) = (Clock.check c) := by
          simp only [Clock.check, Ref.between, Lru.okRoom] at *; grind
        refine q_end0 (v := .int .i64 (Lru.keys (Clock.keysOf c.frames))) (rt1 rfl (r_tmp rfl)) (i := 2) rfl ?_
        exact (by have hcc := congrArg (fun (y0 : Int) => (.int .i64 y0 : Value)) hr0; exact hcc)
      · simp only [bne_eq_false_iff_eq] at hc8
        refine c_skip ?_
        refine q_then ?_
        refine c_seq ?_
        refine c_seq ?_
        refine c_region ?_
        refine o_pure (p_fieldAddr (B := B1) (j := 0) (j' := 2) rfl fo59_2 rfl) rfl rfl rfl ?_
        refine o_pure (p_load (i := 1) (v := .slice ac_0 c.frames.length cc_0) rfl rfl sh57 rfl) rfl rfl rfl ?_
        refine o_pure (p_len_slice (len := c.frames.length) rfl rfl Try.underlying57) rfl rfl rfl ?_
        refine o_pure (p_eq (p := (c.frames.length : Int)) (q := 0) rfl rfl) rfl rfl rfl ?_
        refine o_pure (p_move (v := .bool ((c.frames.length : Int) == 0)) rfl) rfl rfl rfl ?_
        refine o_and (p := 29) 4 (c.hand != 0) ?_ ?_ ?_
        · intro hb9 hk
          simp only [beq_iff_eq] at hb9
          refine o_unguard 25 rfl rfl ?_
          refine o_pure (p_fieldAddr (B := B1) (j := 0) (j' := 1) rfl fo59_1 rfl) rfl rfl rfl ?_
          refine o_unguard 25 rfl rfl ?_
          refine o_pure (p_load (i := 1) (v := .int .i64 c.hand) rfl rfl sh3 rfl) rfl rfl rfl ?_
          refine o_unguard 25 rfl rfl ?_
          refine o_pure (p_ne (p := c.hand) (q := 0) rfl rfl) rfl rfl rfl ?_
          refine o_pure (p_pick_true (u := .bool (c.hand != 0)) rfl rfl) rfl rfl rfl ?_
          exact o_sub (Sub.cons rfl (Sub.skip rfl (Sub.skip rfl (Sub.skip rfl (Sub.skip rfl (Sub.skip rfl (Sub.refl _))))))) hk
        · intro hb9 hk
          refine o_guard_no rfl 25 rfl rfl rfl rfl rfl ?_
          refine o_guard_no rfl 25 rfl rfl rfl rfl rfl ?_
          refine o_guard_no rfl 25 rfl rfl rfl rfl rfl ?_
          refine o_pure (p_pick_false (v := .bool false) rfl rfl) rfl rfl rfl ?_
          exact o_sub (Sub.cons rfl (Sub.skip rfl (Sub.skip rfl (Sub.skip rfl (Sub.skip rfl (Sub.skip rfl (Sub.refl _))))))) hk
        refine o_pure (p_move (v := .bool (((c.frames.length : Int) == 0) && (c.hand != 0))) rfl) rfl rfl rfl ?_
        refine o_or (p := 45) 15 (decide (0 < (c.frames.length : Int)) && (!(Ref.between c.hand (0 : Int) ((c.frames.length : Int) - 1)))) ?_ ?_ ?_
        · intro hb10 hk
          simp only [Bool.and_eq_false_iff, beq_eq_false_iff_ne, ne_eq, bne_eq_false_iff_eq] at hb10
          refine o_unguard 30 rfl rfl ?_
          refine o_pure (p_fieldAddr (B := B1) (j := 0) (j' := 2) rfl fo59_2 rfl) rfl rfl rfl ?_
          refine o_unguard 30 rfl rfl ?_
          refine o_pure (p_load (i := 1) (v := .slice ac_0 c.frames.length cc_0) rfl rfl sh57 rfl) rfl rfl rfl ?_
          refine o_unguard 30 rfl rfl ?_
          refine o_pure (p_len_slice (len := c.frames.length) rfl rfl Try.underlying57) rfl rfl rfl ?_
          refine o_unguard 30 rfl rfl ?_
          refine o_pure (p_gt (p := (c.frames.length : Int)) (q := 0) rfl rfl) rfl rfl rfl ?_
          refine o_unguard 30 rfl rfl ?_
          refine o_pure (p_move (v := .bool (decide (0 < (c.frames.length : Int)))) rfl) rfl rfl rfl ?_
          refine o_and (p := 44) 9 (!(Ref.between c.hand (0 : Int) ((c.frames.length : Int) - 1))) ?_ ?_ ?_
          · intro hb11 hk
            simp only [decide_eq_true_eq] at hb11
            refine o_unguard 35 rfl rfl ?_
            refine o_pure (p_fieldAddr (B := B1) (j := 0) (j' := 1) rfl fo59_1 rfl) rfl rfl rfl ?_
            refine o_unguard 35 rfl rfl ?_
            refine o_pure (p_load (i := 1) (v := .int .i64 c.hand) rfl rfl sh3 rfl) rfl rfl rfl ?_
            refine o_unguard 35 rfl rfl ?_
            refine o_pure (p_fieldAddr (B := B1) (j := 0) (j' := 2) rfl fo59_2 rfl) rfl rfl rfl ?_
            refine o_unguard 35 rfl rfl ?_
            refine o_pure (p_load (i := 1) (v := .slice ac_0 c.frames.length cc_0) rfl rfl sh57 rfl) rfl rfl rfl ?_
            refine o_unguard 35 rfl rfl ?_
            refine o_pure (p_len_slice (len := c.frames.length) rfl rfl Try.underlying57) rfl rfl rfl ?_
            refine o_unguard 35 rfl rfl ?_
            refine o_pure (p_subb (p := (c.frames.length : Int)) (q := 1) rfl rfl (by omega)) rfl rfl rfl ?_
            refine o_unguard 35 rfl rfl ?_
            refine o_call0 (v := .bool (Ref.between c.hand (0 : Int) ((c.frames.length : Int) - 1))) rfl (between_ok c.hand (0 : Int) ((c.frames.length : Int) - 1)) hf66 (fun _ _ => trivial) rfl ?_
            refine o_unguard 35 rfl rfl ?_
            refine o_pure (p_not (b := (Ref.between c.hand (0 : Int) ((c.frames.length : Int) - 1))) rfl) rfl rfl rfl ?_
            refine o_unguard 30 rfl rfl ?_
            refine o_pure (p_pick_true (u := .bool (!(Ref.between c.hand (0 : Int) ((c.frames.length : Int) - 1)))) rfl rfl) rfl rfl rfl ?_
            exact o_sub (Sub.cons rfl (Sub.skip rfl (Sub.skip rfl (Sub.skip rfl (Sub.skip rfl (Sub.skip rfl (Sub.skip rfl (Sub.skip rfl (Sub.skip rfl (Sub.skip rfl (Sub.skip rfl (Sub.refl _)))))))))))) hk
          · intro hb11 hk
            refine o_guard_no rfl 35 rfl rfl rfl rfl rfl ?_
            refine o_guard_no rfl 35 rfl rfl rfl rfl rfl ?_
            refine o_guard_no rfl 35 rfl rfl rfl rfl rfl ?_
            refine o_guard_no rfl 35 rfl rfl rfl rfl rfl ?_
            refine o_guard_no rfl 35 rfl rfl rfl rfl rfl ?_
            refine o_guard_no rfl 35 rfl rfl rfl rfl rfl ?_
            refine o_guard_no rfl 35 rfl rfl rfl rfl rfl ?_
            refine o_guard_no rfl 35 rfl rfl rfl rfl rfl ?_
            refine o_unguard 30 rfl rfl ?_
            refine o_pure (p_pick_false (v := .bool false) rfl rfl) rfl rfl rfl ?_
            exact o_sub (Sub.cons rfl (Sub.skip rfl (Sub.skip rfl (Sub.skip rfl (Sub.skip rfl (Sub.skip rfl (Sub.skip rfl (Sub.skip rfl (Sub.skip rfl (Sub.skip rfl (Sub.skip rfl (Sub.refl _)))))))))))) hk
          refine o_pure (p_pick_false (v := .bool (decide (0 < (c.frames.length : Int)) && (!(Ref.between c.hand (0 : Int) ((c.frames.length : Int) - 1))))) rfl rfl) rfl rfl rfl ?_
          exact o_sub (Sub.cons rfl (Sub.skip rfl (Sub.skip rfl (Sub.skip rfl (Sub.skip rfl (Sub.skip rfl (Sub.skip rfl (Sub.skip rfl (Sub.refl _))))))))) hk
        · intro hb10 hk
          refine o_guard_no rfl 30 rfl rfl rfl rfl rfl ?_
          refine o_guard_no rfl 30 rfl rfl rfl rfl rfl ?_
          refine o_guard_no rfl 30 rfl rfl rfl rfl rfl ?_
          refine o_guard_no rfl 30 rfl rfl rfl rfl rfl ?_
          refine o_guard_no rfl 30 rfl rfl rfl rfl rfl ?_
          refine o_guard_no rfl 35 rfl rfl rfl rfl rfl ?_
          refine o_guard_no rfl 35 rfl rfl rfl rfl rfl ?_
          refine o_guard_no rfl 35 rfl rfl rfl rfl rfl ?_
          refine o_guard_no rfl 35 rfl rfl rfl rfl rfl ?_
          refine o_guard_no rfl 35 rfl rfl rfl rfl rfl ?_
          refine o_guard_no rfl 35 rfl rfl rfl rfl rfl ?_
          refine o_guard_no rfl 35 rfl rfl rfl rfl rfl ?_
          refine o_guard_no rfl 35 rfl rfl rfl rfl rfl ?_
          refine o_guard_no rfl 30 rfl rfl rfl rfl rfl ?_
          refine o_pure (p_pick_true (u := .bool true) rfl rfl) rfl rfl rfl ?_
          exact o_sub (Sub.cons rfl (Sub.skip rfl (Sub.skip rfl (Sub.skip rfl (Sub.skip rfl (Sub.skip rfl (Sub.skip rfl (Sub.skip rfl (Sub.skip rfl (Sub.skip rfl (Sub.skip rfl (Sub.skip rfl (Sub.skip rfl (Sub.skip rfl (Sub.skip rfl (Sub.skip rfl (Sub.skip rfl (Sub.refl _)))))))))))))))))) hk
        refine o_nil ?_
        refine q_then ?_
        refine c_cond (b := ((((c.frames.length : Int) == 0) && (c.hand != 0)) || (decide (0 < (c.frames.length : Int)) && (!(Ref.between c.hand (0 : Int) ((c.frames.length : Int) - 1)))))) rfl (fun hc12 => ?_) (fun hc12 => ?_)
        · simp only [Bool.or_eq_true, Bool.and_eq_true, beq_iff_eq, bne_iff_ne, ne_eq, decide_eq_true_eq, Bool.not_eq_true'] at hc12
          refine c_seq ?_
          refine c_region ?_
          refine o_pure (p_assign (v := .int .i64 4) rfl) rfl rfl rfl ?_
          refine o_nil ?_
          refine q_then ?_
          refine c_ret ?_
          refine q_then_ret ?_
          have hr0 : (4 : Int) = (Clock.check c) := by
            simp only [Clock.check, Ref.between, Lru.okRoom] at *; grind
          refine q_end0 (v := .int .i64 4) (rt1 rfl (r_tmp rfl)) (i := 2) rfl ?_
          exact (by have hcc := congrArg (fun (y0 : Int) => (.int .i64 y0 : Value)) hr0; exact hcc)
        · simp only [Bool.or_eq_false_iff, Bool.and_eq_false_iff, beq_eq_false_iff_ne, ne_eq, bne_eq_false_iff_eq, decide_eq_false_iff_not, Int.not_lt, Bool.not_eq_false'] at hc12
          refine c_skip ?_
          refine q_then ?_
          refine c_seq ?_
          refine c_region ?_
          refine o_pure (p_assign (v := .int .i64 0) rfl) rfl rfl rfl ?_
          refine o_nil ?_
          refine q_then ?_
          refine c_ret ?_
          have hr0 : (0 : Int) = (Clock.check c) := by
            simp only [Clock.check, Ref.between, Lru.okRoom] at *; grind
          refine q_end0 (v := .int .i64 0) (rt1 rfl (r_tmp rfl)) (i := 2) rfl ?_
          exact (by have hcc := congrArg (fun (y0 : Int) => (.int .i64 y0 : Value)) hr0; exact hcc)

set_option maxHeartbeats 8000000 in
set_option maxRecDepth 100000 in
theorem framesCopy_ok (l : List DFrame) (al : Option Addr) (cl : Nat) (hy1 : l.length ≤ 1000000) : FnM Try.prog 43 [.slice al l.length cl] (fun w => Rd tFrame w al cl l) (Option Addr × Nat) (fun p => .slice p.1 l.length p.2) (fun p S w => SlO tFrame S w p.1 p.2 l) := by
  refine fnM (nt := 6) (F0 := [(0, .slice al l.length cl)]) Try.func43 rfl Try.ntmps43 rfl rfl (fun w0 hpre => ?_)
  have hl := hpre
  have hlhl := hl.2.1
  refine c_seq ?_
  refine c_region ?_
  refine o_pure (p_assign (v := .slice none 0 0) rfl) rfl rfl rfl ?_
  refine o_nil ?_
  refine q_then ?_
  refine c_seq ?_
  refine c_region ?_
  refine o_buildSlice (m := 0) (T := tFrame) (L := []) (vs := []) rfl rfl rfl rfl Try.underlying57 sz73 (by decide) ze73 rfl (by decide) rfl (fun S1 a2 => ?_)
  refine o_pure (p_move (v := .slice al l.length cl) rfl) rfl rfl rfl ?_
  refine o_append (i := 0) (L := []) (M := l) (T := tFrame) rfl rfl rfl (rd_base (i := 1) rfl hl) Try.underlying57 Try.underlying57 (by intro k h; cases h) el73 (by intro z; simp [tFrame, one1]) (by decide) (by simp only [List.length_nil]; omega) rfl (fun a4 c5 S6 => ?_)
  refine o_pure (p_assign (v := .slice a4 ([] ++ l).length c5) rfl) rfl rfl rfl ?_
  refine o_nil ?_
  refine q_then ?_
  refine c_ret ?_
  have hr0 : (([] ++ l) : List DFrame) = l := by
    simp
  refine q_endM (p := (a4, c5)) S6 (rt1 rfl (r_tmp rfl)) (i := 1) rfl ?_ ?_ ?_
  · exact (by have hcc := congrArg (fun (y0 : List DFrame) => (.slice a4 y0.length c5 : Value)) hr0; exact hcc)
  · exact fun w hw => hw.above (i := 1) (j := 0) (by decide) rfl rfl
  · intro w hw; exact Eq.mp (congrArg (fun y => SlO tFrame _ w a4 c5 y) hr0) ((hw.at (i := 0) rfl).here)

set_option maxHeartbeats 8000000 in
set_option maxRecDepth 100000 in
theorem clockTouch_ok (c : DClock) (ac_0 : Option Addr) (cc_0 : Nat) (key : Int) (hy1 : Clock.Ok c) : FnM Try.prog 41 [.agg #[.int .i64 c.room, .int .i64 c.hand, .slice ac_0 c.frames.length cc_0], .int .i64 key] (fun w => Rd tFrame w ac_0 cc_0 c.frames) (Option Addr × Nat) (fun p => .tuple #[.agg #[.int .i64 (((Clock.touch c key).1).room), .int .i64 (((Clock.touch c key).1).hand), .slice p.1 (((Clock.touch c key).1).frames).length p.2], .bool ((Clock.touch c key).2.1), .int .i64 ((Clock.touch c key).2.2)]) (fun p S w => SlO tFrame S w p.1 p.2 (((Clock.touch c key).1).frames)) := by
  refine fnM (nt := 105) (F0 := [(0, .agg #[.int .i64 c.room, .int .i64 c.hand, .slice ac_0 c.frames.length cc_0]), (1, .int .i64 key)]) Try.func41 rfl Try.ntmps41 rfl rfl (fun w0 hpre => ?_)
  have hc_0 := hpre
  have hlhc_0 := hc_0.2.1
  have hroom := hy1.room
  have hlen := hy1.len
  have hh0 := hy1.hand0
  have hh1 := hy1.hand1
  refine c_seq ?_
  refine c_region ?_
  refine o_box (v := .agg #[.int .i64 c.room, .int .i64 c.hand, .slice ac_0 c.frames.length cc_0]) rfl rfl (fun B1 => ?_)
  refine o_alloc ze59 rfl (fun B2 => ?_)
  refine o_pure (p_assign (v := .bool false) rfl) rfl rfl rfl ?_
  refine o_pure (p_assign (v := .int .i64 0) rfl) rfl rfl rfl ?_
  refine o_nil ?_
  refine q_then ?_
  refine c_seq ?_
  refine c_region ?_
  refine o_pure (p_fieldAddr (B := B1) (j := 0) (j' := 2) rfl fo59_2 rfl) rfl rfl rfl ?_
  refine o_pure (p_load (i := 1) (v := .slice ac_0 c.frames.length cc_0) rfl rfl sh57 rfl) rfl rfl rfl ?_
  refine o_callM rfl (framesCopy_ok c.frames ac_0 cc_0 (by first | assumption | omega)) hf43 (fun w hw => (rd_base (i := 2) rfl hc_0) w hw) rfl (fun _ _ _ _ ha hA => SlO.agree ha hA) ?_
  rintro ⟨a5, c6⟩ S3
  refine o_pure (p_assign (v := .slice a5 c.frames.length c6) rfl) rfl rfl rfl ?_
  refine o_nil ?_
  refine q_then ?_
  refine c_seq ?_
  refine c_region ?_
  refine o_pure (p_move (v := .slice a5 c.frames.length c6) rfl) rfl rfl rfl ?_
  refine o_pure (p_len_slice (len := c.frames.length) rfl rfl Try.underlying57) rfl rfl rfl ?_
  refine o_pure (p_assign (v := .int .i64 (c.frames.length : Int)) rfl) rfl rfl rfl ?_
  refine o_nil ?_
  refine q_then ?_
  refine c_seq ?_
  refine c_seq ?_
  refine c_region ?_
  refine o_pure (p_assign (v := .int .i64 0) rfl) rfl rfl rfl ?_
  refine o_nil ?_
  refine q_then ?_
  refine c_block ?_
  refine c_loop (St := Nat)
    (fun i => [(1, .int .i64 key), (2, .pointer (some ⟨B1, 0, none⟩)), (4, .pointer (some ⟨B2, 0, none⟩)), (7, .slice a5 c.frames.length c6), (8, .int .i64 (c.frames.length : Int)), (9, .int .i64 (i : Int))])
    (fun i => [own tFrame S3 a5 c6 c.frames, box B2 [.int .i64 0, .int .i64 0, .slice none 0 0] 59, box B1 [.int .i64 c.room, .int .i64 c.hand, .slice ac_0 c.frames.length cc_0] 59, base w0])
    (fun i => i ≤ c.frames.length ∧ ∀ j (h : j < c.frames.length), j < i → c.frames[j].key ≠ key)
    (fun i => c.frames.length - i)
    0 ?_ (Sub.cons rfl (Sub.cons rfl (Sub.cons rfl (Sub.cons rfl (Sub.cons rfl (Sub.cons rfl (Sub.nil _))))))) (fun _ hw => hw) ?_
  · exact ⟨Nat.zero_le _, fun j _ h => absurd h (by omega)⟩
  rintro i hI K hK7
  obtain ⟨hI1, hI2⟩ := hI
  show SC _ _ Try.prog 105 w0 _ _ [(1, .int .i64 key), (2, .pointer (some ⟨B1, 0, none⟩)), (4, .pointer (some ⟨B2, 0, none⟩)), (7, .slice a5 c.frames.length c6), (8, .int .i64 (c.frames.length : Int)), (9, .int .i64 (i : Int))] [own tFrame S3 a5 c6 c.frames, box B2 [.int .i64 0, .int .i64 0, .slice none 0 0] 59, box B1 [.int .i64 c.room, .int .i64 c.hand, .slice ac_0 c.frames.length cc_0] 59, base w0]
  refine c_seq ?_
  refine c_seq ?_
  refine c_region ?_
  refine o_pure (p_move (v := .int .i64 (i : Int)) rfl) rfl rfl rfl ?_
  refine o_pure (p_move (v := .int .i64 (c.frames.length : Int)) rfl) rfl rfl rfl ?_
  refine o_pure (p_lt (p := (i : Int)) (q := (c.frames.length : Int)) rfl rfl) rfl rfl rfl ?_
  refine o_nil ?_
  refine q_then ?_
  refine c_cond (b := decide ((i : Int) < (c.frames.length : Int))) rfl (fun hc8 => ?_) (fun hc8 => ?_)
  · simp only [decide_eq_true_eq] at hc8
    refine c_skip ?_
    refine q_then ?_
    refine c_seq ?_
    refine c_block ?_
    refine c_seq ?_
    refine c_region ?_
    refine o_pure (p_move (v := .slice a5 c.frames.length c6) rfl) rfl rfl rfl ?_
    refine o_pure (p_move (v := .int .i64 (i : Int)) rfl) rfl rfl rfl ?_
    refine o_pure (p_indexAddr (L := c.frames) (T := tFrame) (i := (i : Int)) rfl rfl (rd_own (i := 0) rfl) Try.underlying57 sz73 (by omega) (by omega)) rfl rfl rfl ?_
    refine o_pure (p_fieldAddrE rfl fo73_0) rfl rfl rfl ?_
    refine o_pure (p_loadF (i := i) (j := 0) (T := tFrame) (L := c.frames) (v := .int .i64 ((c.frames[i]).key)) rfl (rd_own (i := 0) rfl) (by first | assumption | omega) sh3 rfl) rfl rfl rfl ?_
    refine o_pure (p_move (v := .int .i64 key) rfl) rfl rfl rfl ?_
    refine o_pure (p_eq (p := (c.frames[i]).key) (q := key) rfl rfl) rfl rfl rfl ?_
    refine o_nil ?_
    refine q_then ?_
    refine c_cond (b := ((c.frames[i]).key == key)) rfl (fun hc9 => ?_) (fun hc9 => ?_)
    · simp only [beq_iff_eq] at hc9
      refine c_seq ?_
      refine c_region ?_
      refine o_pure (p_move (v := .slice a5 c.frames.length c6) rfl) rfl rfl rfl ?_
      refine o_pure (p_move (v := .int .i64 (i : Int)) rfl) rfl rfl rfl ?_
      refine o_pure (p_indexAddr (L := c.frames) (T := tFrame) (i := (i : Int)) rfl rfl (rd_own (i := 0) rfl) Try.underlying57 sz73 (by omega) (by omega)) rfl rfl rfl ?_
      refine o_pure (p_fieldAddrE rfl fo73_1) rfl rfl rfl ?_
      refine o_storeF (j := 1) (i := 0) (T := tFrame) (idx := i) (v := .bool true) (vs := [.bool true]) (z := (⟨(c.frames[i]).key, true⟩ : DFrame)) (F' := [(2, .pointer (some ⟨B1, 0, none⟩)), (4, .pointer (some ⟨B2, 0, none⟩)), (7, .slice a5 (c.frames.set i (⟨(c.frames[i]).key, true⟩ : DFrame)).length c6)]) rfl rfl rfl rfl (by first | assumption | omega | (simp only [List.length_set]; omega)) sz4 rfl rfl rfl rfl (Sub.cons rfl (Sub.cons rfl (Sub.cons (by simp only [List.length_set]; rfl) (Sub.nil _)))) ?_
      refine o_nil ?_
      refine q_then ?_
      refine c_seq ?_
      refine c_region ?_
      refine o_pure (p_fieldAddr (B := B1) (j := 0) (j' := 0) rfl fo59_0 rfl) rfl rfl rfl ?_
      refine o_pure (p_load (i := 2) (v := .int .i64 c.room) rfl rfl sh3 rfl) rfl rfl rfl ?_
      refine o_pure (p_fieldAddr (B := B1) (j := 0) (j' := 1) rfl fo59_1 rfl) rfl rfl rfl ?_
      refine o_pure (p_load (i := 2) (v := .int .i64 c.hand) rfl rfl sh3 rfl) rfl rfl rfl ?_
      refine o_pure (p_move (v := .slice a5 (c.frames.set i (⟨(c.frames[i]).key, true⟩ : DFrame)).length c6) rfl) rfl rfl rfl ?_
      refine o_pure (p_build (cells := [.int .i64 c.room, .int .i64 c.hand, .slice a5 (c.frames.set i (⟨(c.frames[i]).key, true⟩ : DFrame)).length c6]) fp59 ze59 rfl rfl) rfl rfl rfl ?_
      refine o_storeN (i := 1) (vs := [.int .i64 c.room, .int .i64 c.hand, .slice a5 (c.frames.set i (⟨(c.frames[i]).key, true⟩ : DFrame)).length c6]) (cs' := [.int .i64 c.room, .int .i64 c.hand, .slice a5 (c.frames.set i (⟨(c.frames[i]).key, true⟩ : DFrame)).length c6]) rfl rfl rfl sz59 rfl rfl rfl rfl ?_
      refine o_pure (p_assign (v := .bool true) rfl) rfl rfl rfl ?_
      refine o_pure (p_assign (v := .int .i64 (-1)) rfl) rfl rfl rfl ?_
      refine o_nil ?_
      refine q_then ?_
      refine c_ret ?_
      refine q_block_ret (q_then_ret (q_then_ret (q_block_ret (q_then_ret ?_))))
      first
        | have ht := Clock.touch_hit2 (c := c) (key := key) (by omega) (by assumption) hI2
        | have ht := Clock.touch_room (c := c) (key := key) hid (by omega)
        | have ht := Clock.touch_ref (key := key) hy1 hI hid (by omega) (by omega) (by assumption)
      have hr0 : (c.room : Int) = ((Clock.touch c key).1).room := by
        simp only [ht, List.length_set]
      have hr1 : (c.hand : Int) = ((Clock.touch c key).1).hand := by
        simp only [ht, List.length_set]
      have hr2 : ((c.frames.set i (⟨(c.frames[i]).key, true⟩ : DFrame)) : List DFrame) = ((Clock.touch c key).1).frames := by
        simp only [ht, List.length_set]
      have hr3 : (true : Bool) = ((Clock.touch c key).2.1) := by
        simp only [ht, List.length_set]
      have hr4 : ((-1) : Int) = ((Clock.touch c key).2.2) := by
        simp only [ht, List.length_set]
      refine q_endM (p := (a5, c6)) S3 (rt3 rfl (r_cell (i := 1) rfl rfl sh59 rfl) (r_tmp rfl) (r_tmp rfl)) (i := 3) rfl ?_ ?_ ?_
      · exact (by have hcc := congr (congr (congr (congr (congrArg (fun (y0 : Int) (y1 : Int) (y2 : List DFrame) (y3 : Bool) (y4 : Int) => (.tuple #[.agg #[.int .i64 y0, .int .i64 y1, .slice a5 y2.length c6], .bool y3, .int .i64 y4] : Value)) hr0) hr1) hr2) hr3) hr4; exact hcc)
      · exact fun w hw => hw.above (i := 3) (j := 0) (by decide) rfl rfl
      · intro w hw; exact Eq.mp (congrArg (fun y => SlO tFrame _ w a5 c6 y) hr2) ((hw.at (i := 0) rfl).here)
    · simp only [beq_eq_false_iff_ne, ne_eq] at hc9
      refine c_skip ?_
      refine q_block_normal (q_then ?_)
      refine c_region ?_
      refine o_pure (p_move (v := .int .i64 (i : Int)) rfl) rfl rfl rfl ?_
      refine o_pure (p_addb (p := (i : Int)) (q := 1) rfl rfl (by omega)) rfl rfl rfl ?_
      refine o_pure (p_assign (v := .int .i64 ((i : Int) + 1)) rfl) rfl rfl rfl ?_
      refine o_nil ?_
      refine q_round hK7 (i + 1) ?_ ?_ ?_ ?_
      · clear hK7
        refine ⟨by omega, fun j h h2 => ?_⟩
        by_cases e : j = i
        · subst e; assumption
        · exact hI2 j h (by omega)
      · (try dsimp only); omega
      · exact Sub.cons rfl (Sub.cons rfl (Sub.cons rfl (Sub.cons rfl (Sub.cons rfl (Sub.cons rfl (Sub.nil _))))))
      · exact fun _ hw => HeapIs.pick hw [0, 1, 2, 3] (by decide) rfl
  · simp only [decide_eq_false_iff_not, Int.not_lt] at hc8
    have hid := Clock.at_neg (c := c) (key := key) (fun j h => hI2 j h (by omega))
    refine c_exit ?_
    refine q_then_exit (q_then_exit (q_block_exit (q_then ?_)))
    refine c_seq ?_
    refine c_seq ?_
    refine c_region ?_
    refine o_pure (p_move (v := .int .i64 (c.frames.length : Int)) rfl) rfl rfl rfl ?_
    refine o_pure (p_fieldAddr (B := B1) (j := 0) (j' := 0) rfl fo59_0 rfl) rfl rfl rfl ?_
    refine o_pure (p_load (i := 2) (v := .int .i64 c.room) rfl rfl sh3 rfl) rfl rfl rfl ?_
    refine o_pure (p_lt (p := (c.frames.length : Int)) (q := c.room) rfl rfl) rfl rfl rfl ?_
    refine o_nil ?_
    refine q_then ?_
    refine c_cond (b := decide ((c.frames.length : Int) < c.room)) rfl (fun hc10 => ?_) (fun hc10 => ?_)
    · simp only [decide_eq_true_eq] at hc10
      refine c_seq ?_
      refine c_held hmix [box B1 [.int .i64 c.room, .int .i64 c.hand, .slice ac_0 c.frames.length cc_0] 59, base w0] rfl rfl ?_
      refine h_take (i := 0) (ls := #[true, false, false, false, false, false, false, false, false, false, false, false, false]) rfl (by kernel_rfl) (by kernel_rfl) (by kernel_rfl) (fun _ _ _ h => h) (p_fieldAddr (B := B1) (j := 0) (j' := 0) rfl fo59_0 rfl) rfl rfl rfl (fun _ hw => HeapIs.drop hw (List.Sublist.cons _ (List.Sublist.cons _ (List.Sublist.cons_cons _ (List.Sublist.cons_cons _ (List.Sublist.slnil)))))) rfl ?_
      refine h_take (i := 1) (ls := #[true, true, false, false, false, false, false, false, false, false, false, false, false]) rfl (by kernel_rfl) (by kernel_rfl) (by kernel_rfl) (fun _ _ _ h => h) (p_load (i := 0) (v := .int .i64 c.room) rfl rfl sh3 rfl) rfl rfl rfl (fun _ hw => HeapIs.drop hw (List.Sublist.cons _ (List.Sublist.cons _ (List.Sublist.cons_cons _ (List.Sublist.cons_cons _ (List.Sublist.slnil)))))) rfl ?_
      refine h_take (i := 2) (ls := #[true, true, true, false, false, false, false, false, false, false, false, false, false]) rfl (by kernel_rfl) (by kernel_rfl) (by kernel_rfl) (fun _ _ _ h => h) (p_fieldAddr (B := B1) (j := 0) (j' := 1) rfl fo59_1 rfl) rfl rfl rfl (fun _ hw => HeapIs.drop hw (List.Sublist.cons _ (List.Sublist.cons _ (List.Sublist.cons_cons _ (List.Sublist.cons_cons _ (List.Sublist.slnil)))))) rfl ?_
      refine h_take (i := 3) (ls := #[true, true, true, true, false, false, false, false, false, false, false, false, false]) rfl (by kernel_rfl) (by kernel_rfl) (by kernel_rfl) (fun _ _ _ h => h) (p_load (i := 0) (v := .int .i64 c.hand) rfl rfl sh3 rfl) rfl rfl rfl (fun _ hw => HeapIs.drop hw (List.Sublist.cons _ (List.Sublist.cons _ (List.Sublist.cons_cons _ (List.Sublist.cons_cons _ (List.Sublist.slnil)))))) rfl ?_
      refine h_take (i := 4) (ls := #[true, true, true, true, true, false, false, false, false, false, false, false, false]) rfl (by kernel_rfl) (by kernel_rfl) (by kernel_rfl) (fun _ _ _ h => h) (p_move (v := .slice a5 c.frames.length c6) rfl) rfl rfl rfl (fun _ hw => HeapIs.drop hw (List.Sublist.cons _ (List.Sublist.cons _ (List.Sublist.cons_cons _ (List.Sublist.cons_cons _ (List.Sublist.slnil)))))) rfl ?_
      refine h_take (i := 5) (ls := #[true, true, true, true, true, true, false, false, false, false, false, false, false]) rfl (by kernel_rfl) (by kernel_rfl) (by kernel_rfl) (fun _ _ _ h => h) (p_move (v := .int .i64 key) rfl) rfl rfl rfl (fun _ hw => HeapIs.drop hw (List.Sublist.cons _ (List.Sublist.cons _ (List.Sublist.cons_cons _ (List.Sublist.cons_cons _ (List.Sublist.slnil)))))) rfl ?_
      refine h_take (i := 6) (ls := #[true, true, true, true, true, true, true, false, false, false, false, false, false]) rfl (by kernel_rfl) (by kernel_rfl) (by kernel_rfl) (fun _ _ _ h => h) (p_build (cells := [.int .i64 key, .bool false]) fp73 ze73 rfl rfl) rfl rfl rfl (fun _ hw => HeapIs.drop hw (List.Sublist.cons _ (List.Sublist.cons _ (List.Sublist.cons_cons _ (List.Sublist.cons_cons _ (List.Sublist.slnil)))))) rfl ?_
      refine h_one (i := 7) (ls := #[true, true, true, true, true, true, true, true, false, false, false, false, false]) (by kernel_rfl) rfl rfl ?_
      refine o_buildSlice (m := 1) (T := tFrame) (L := [(⟨key, false⟩ : DFrame)]) (vs := [.agg #[.int .i64 key, .bool false]]) rfl rfl rfl rfl Try.underlying57 sz73 (by decide) ze73 rfl (by decide) rfl (fun S11_7 a11_7 => ?_)
      refine o_nil ?_
      refine h_next (fun _ hw => HeapIs.drop hw (List.Sublist.cons _ (List.Sublist.cons _ (List.Sublist.cons _ (List.Sublist.cons_cons _ (List.Sublist.cons_cons _ (List.Sublist.slnil))))))) ?_
      refine h_one (i := 8) (ls := #[true, true, true, true, true, true, true, true, true, false, false, false, false]) (by kernel_rfl) rfl rfl ?_
      refine o_append (i := 1) (L := c.frames) (M := [(⟨key, false⟩ : DFrame)]) (T := tFrame) rfl rfl rfl (rd_own (i := 0) rfl) Try.underlying57 Try.underlying57 (by intro k h; cases h) el73 (by intro z; simp [tFrame, one1]) (by decide) (by simp only [List.length_cons, List.length_nil]; omega) rfl (fun a11_8 c11_8 S11_8 => ?_)
      refine o_nil ?_
      refine h_next (fun _ hw => HeapIs.drop hw (List.Sublist.cons _ (List.Sublist.cons _ (List.Sublist.cons _ (List.Sublist.cons_cons _ (List.Sublist.cons_cons _ (List.Sublist.slnil))))))) ?_
      refine h_take (i := 9) (ls := #[true, true, true, true, true, true, true, true, true, true, false, false, false]) rfl (by kernel_rfl) (by kernel_rfl) (by kernel_rfl) (fun _ _ _ h => h) (p_build (cells := [.int .i64 c.room, .int .i64 c.hand, .slice a11_8 (c.frames ++ [(⟨key, false⟩ : DFrame)]).length c11_8]) fp59 ze59 rfl rfl) rfl rfl rfl (fun _ hw => HeapIs.drop hw (List.Sublist.cons _ (List.Sublist.cons _ (List.Sublist.cons _ (List.Sublist.cons_cons _ (List.Sublist.cons_cons _ (List.Sublist.slnil))))))) rfl ?_
      refine h_one (i := 10) (ls := #[true, true, true, true, true, true, true, true, true, true, true, false, false]) (by kernel_rfl) rfl rfl ?_
      refine o_storeN (i := 2) (vs := [.int .i64 c.room, .int .i64 c.hand, .slice a11_8 (c.frames ++ [(⟨key, false⟩ : DFrame)]).length c11_8]) (cs' := [.int .i64 c.room, .int .i64 c.hand, .slice a11_8 (c.frames ++ [(⟨key, false⟩ : DFrame)]).length c11_8]) rfl rfl rfl sz59 rfl rfl rfl rfl ?_
      refine o_nil ?_
      refine h_next (fun _ hw => HeapIs.drop hw (List.Sublist.cons _ (List.Sublist.cons _ (List.Sublist.cons _ (List.Sublist.cons_cons _ (List.Sublist.cons_cons _ (List.Sublist.slnil))))))) ?_
      refine h_take (i := 11) (ls := #[true, true, true, true, true, true, true, true, true, true, true, true, false]) rfl (by kernel_rfl) (by kernel_rfl) (by kernel_rfl) (fun _ _ _ h => h) (p_assign (v := .bool false) rfl) rfl rfl rfl (fun _ hw => HeapIs.drop hw (List.Sublist.cons _ (List.Sublist.cons _ (List.Sublist.cons _ (List.Sublist.cons_cons _ (List.Sublist.cons_cons _ (List.Sublist.slnil))))))) rfl ?_
      refine h_take (i := 12) (ls := #[true, true, true, true, true, true, true, true, true, true, true, true, true]) rfl (by kernel_rfl) (by kernel_rfl) (by kernel_rfl) (fun _ _ _ h => h) (p_assign (v := .int .i64 (-1)) rfl) rfl rfl rfl (fun _ hw => HeapIs.drop hw (List.Sublist.cons _ (List.Sublist.cons _ (List.Sublist.cons _ (List.Sublist.cons_cons _ (List.Sublist.cons_cons _ (List.Sublist.slnil))))))) rfl ?_
      refine h_done (by kernel_rfl) ?_
      refine q_cast (F' := [(4, .pointer (some ⟨B2, 0, none⟩)), (5, .bool false), (6, .int .i64 (-1))]) (H := [own tFrame S11_7 a11_7 ([(⟨key, false⟩ : DFrame)].length) ([(⟨key, false⟩ : DFrame)]), own tFrame S11_8 a11_8 c11_8 (c.frames ++ [(⟨key, false⟩ : DFrame)]), box B2 [.int .i64 c.room, .int .i64 c.hand, .slice a11_8 (c.frames ++ [(⟨key, false⟩ : DFrame)]).length c11_8] 59, box B1 [.int .i64 c.room, .int .i64 c.hand, .slice ac_0 c.frames.length cc_0] 59, base w0]) (H' := [own tFrame S11_7 a11_7 ([(⟨key, false⟩ : DFrame)].length) ([(⟨key, false⟩ : DFrame)]), own tFrame S11_8 a11_8 c11_8 (c.frames ++ [(⟨key, false⟩ : DFrame)]), box B2 [.int .i64 c.room, .int .i64 c.hand, .slice a11_8 (c.frames ++ [(⟨key, false⟩ : DFrame)]).length c11_8] 59, box B1 [.int .i64 c.room, .int .i64 c.hand, .slice ac_0 c.frames.length cc_0] 59, base w0]) (Sub.cons rfl (Sub.cons rfl (Sub.cons rfl (Sub.nil _)))) (by rfl) ?_
      refine q_then ?_
      refine c_ret ?_
      refine q_then_ret ?_
      first
        | have ht := Clock.touch_hit2 (c := c) (key := key) (by omega) (by assumption) hI2
        | have ht := Clock.touch_room (c := c) (key := key) hid (by omega)
        | have ht := Clock.touch_ref (key := key) hy1 hI hid (by omega) (by omega) (by assumption)
      have hr0 : (c.room : Int) = ((Clock.touch c key).1).room := by
        simp only [ht, List.length_set]
      have hr1 : (c.hand : Int) = ((Clock.touch c key).1).hand := by
        simp only [ht, List.length_set]
      have hr2 : ((c.frames ++ [(⟨key, false⟩ : DFrame)]) : List DFrame) = ((Clock.touch c key).1).frames := by
        simp only [ht, List.length_set]
      have hr3 : (false : Bool) = ((Clock.touch c key).2.1) := by
        simp only [ht, List.length_set]
      have hr4 : ((-1) : Int) = ((Clock.touch c key).2.2) := by
        simp only [ht, List.length_set]
      refine q_endM (p := (a11_8, c11_8)) S11_8 (rt3 rfl (r_cell (i := 2) rfl rfl sh59 rfl) (r_tmp rfl) (r_tmp rfl)) (i := 4) rfl ?_ ?_ ?_
      · exact (by have hcc := congr (congr (congr (congr (congrArg (fun (y0 : Int) (y1 : Int) (y2 : List DFrame) (y3 : Bool) (y4 : Int) => (.tuple #[.agg #[.int .i64 y0, .int .i64 y1, .slice a11_8 y2.length c11_8], .bool y3, .int .i64 y4] : Value)) hr0) hr1) hr2) hr3) hr4; exact hcc)
      · exact fun w hw => hw.above (i := 4) (j := 1) (by decide) rfl rfl
      · intro w hw; exact Eq.mp (congrArg (fun y => SlO tFrame _ w a11_8 c11_8 y) hr2) ((hw.at (i := 1) rfl).here)
    · simp only [decide_eq_false_iff_not, Int.not_lt] at hc10
      refine c_skip ?_
      refine q_then ?_
      refine c_seq ?_
      refine c_region ?_
      refine o_pure (p_assign (v := .int .i64 0) rfl) rfl rfl rfl ?_
      refine o_nil ?_
      refine q_then ?_
      refine c_seq ?_
      refine c_block ?_
      refine c_loop (St := Nat × List DFrame)
        (fun ⟨passed, lc⟩ => [(1, .int .i64 key), (2, .pointer (some ⟨B1, 0, none⟩)), (4, .pointer (some ⟨B2, 0, none⟩)), (7, .slice a5 lc.length c6), (8, .int .i64 (c.frames.length : Int)), (10, .int .i64 (passed : Int))])
        (fun ⟨passed, lc⟩ => [own tFrame S3 a5 c6 lc, box B2 [.int .i64 0, .int .i64 0, .slice none 0 0] 59, box B1 [.int .i64 c.room, .int .i64 c.hand, .slice ac_0 c.frames.length cc_0] 59, base w0])
        (fun ⟨passed, lc⟩ => Clock.PInv c lc passed)
        (fun ⟨passed, lc⟩ => c.frames.length - passed)
        (0, c.frames) ?_ (Sub.cons rfl (Sub.cons rfl (Sub.cons rfl (Sub.cons rfl (Sub.cons rfl (Sub.cons rfl (Sub.nil _))))))) (fun _ hw => hw) ?_
      · exact Clock.PInv.start hy1 (by omega)
      rintro ⟨passed, lc⟩ hI K hK12
      have hle := hI.le
      have hln := hI.len
      have htb := Clock.tm_bounds (a := c.hand + (passed : Int)) (n := (c.frames.length : Int)) (by omega) (by omega)
      show SC _ _ Try.prog 105 w0 _ _ [(1, .int .i64 key), (2, .pointer (some ⟨B1, 0, none⟩)), (4, .pointer (some ⟨B2, 0, none⟩)), (7, .slice a5 lc.length c6), (8, .int .i64 (c.frames.length : Int)), (10, .int .i64 (passed : Int))] [own tFrame S3 a5 c6 lc, box B2 [.int .i64 0, .int .i64 0, .slice none 0 0] 59, box B1 [.int .i64 c.room, .int .i64 c.hand, .slice ac_0 c.frames.length cc_0] 59, base w0]
      refine c_seq ?_
      refine c_seq ?_
      refine c_region ?_
      refine o_pure (p_move (v := .int .i64 (passed : Int)) rfl) rfl rfl rfl ?_
      refine o_pure (p_move (v := .int .i64 (c.frames.length : Int)) rfl) rfl rfl rfl ?_
      refine o_pure (p_lt (p := (passed : Int)) (q := (c.frames.length : Int)) rfl rfl) rfl rfl rfl ?_
      refine o_pure (p_move (v := .bool (decide ((passed : Int) < (c.frames.length : Int)))) rfl) rfl rfl rfl ?_
      refine o_and (p := 68) 11 ((lc[((c.hand + (passed : Int)).tmod (c.frames.length : Int)).toNat]).used) ?_ ?_ ?_
      · intro hb13 hk
        simp only [decide_eq_true_eq] at hb13
        refine o_unguard 57 rfl rfl ?_
        refine o_pure (p_move (v := .slice a5 lc.length c6) rfl) rfl rfl rfl ?_
        refine o_unguard 57 rfl rfl ?_
        refine o_pure (p_fieldAddr (B := B1) (j := 0) (j' := 1) rfl fo59_1 rfl) rfl rfl rfl ?_
        refine o_unguard 57 rfl rfl ?_
        refine o_pure (p_load (i := 2) (v := .int .i64 c.hand) rfl rfl sh3 rfl) rfl rfl rfl ?_
        refine o_unguard 57 rfl rfl ?_
        refine o_pure (p_move (v := .int .i64 (passed : Int)) rfl) rfl rfl rfl ?_
        refine o_unguard 57 rfl rfl ?_
        refine o_pure (p_addb (p := c.hand) (q := (passed : Int)) rfl rfl (by omega)) rfl rfl rfl ?_
        refine o_unguard 57 rfl rfl ?_
        refine o_pure (p_move (v := .int .i64 (c.frames.length : Int)) rfl) rfl rfl rfl ?_
        refine o_unguard 57 rfl rfl ?_
        refine o_pure (p_rem (p := (c.hand + (passed : Int))) (q := (c.frames.length : Int)) rfl rfl (by omega)) rfl rfl rfl ?_
        refine o_unguard 57 rfl rfl ?_
        refine o_pure (p_indexAddr (L := lc) (T := tFrame) (i := ((c.hand + (passed : Int)).tmod (c.frames.length : Int))) rfl rfl (rd_own (i := 0) rfl) Try.underlying57 sz73 (by omega) (by omega)) rfl rfl rfl ?_
        refine o_unguard 57 rfl rfl ?_
        refine o_pure (p_fieldAddrE rfl fo73_1) rfl rfl rfl ?_
        refine o_unguard 57 rfl rfl ?_
        refine o_pure (p_loadF (i := ((c.hand + (passed : Int)).tmod (c.frames.length : Int)).toNat) (j := 1) (T := tFrame) (L := lc) (v := .bool ((lc[((c.hand + (passed : Int)).tmod (c.frames.length : Int)).toNat]).used)) rfl (rd_own (i := 0) rfl) (by first | assumption | omega) sh4 rfl) rfl rfl rfl ?_
        refine o_pure (p_pick_true (u := .bool ((lc[((c.hand + (passed : Int)).tmod (c.frames.length : Int)).toNat]).used)) rfl rfl) rfl rfl rfl ?_
        exact o_sub (Sub.cons rfl (Sub.skip rfl (Sub.skip rfl (Sub.skip rfl (Sub.skip rfl (Sub.skip rfl (Sub.skip rfl (Sub.skip rfl (Sub.skip rfl (Sub.skip rfl (Sub.skip rfl (Sub.skip rfl (Sub.skip rfl (Sub.refl _)))))))))))))) hk
      · intro hb13 hk
        refine o_guard_no rfl 57 rfl rfl rfl rfl rfl ?_
        refine o_guard_no rfl 57 rfl rfl rfl rfl rfl ?_
        refine o_guard_no rfl 57 rfl rfl rfl rfl rfl ?_
        refine o_guard_no rfl 57 rfl rfl rfl rfl rfl ?_
        refine o_guard_no rfl 57 rfl rfl rfl rfl rfl ?_
        refine o_guard_no rfl 57 rfl rfl rfl rfl rfl ?_
        refine o_guard_no rfl 57 rfl rfl rfl rfl rfl ?_
        refine o_guard_no rfl 57 rfl rfl rfl rfl rfl ?_
        refine o_guard_no rfl 57 rfl rfl rfl rfl rfl ?_
        refine o_guard_no rfl 57 rfl rfl rfl rfl rfl ?_
        refine o_pure (p_pick_false (v := .bool false) rfl rfl) rfl rfl rfl ?_
        exact o_sub (Sub.cons rfl (Sub.skip rfl (Sub.skip rfl (Sub.skip rfl (Sub.skip rfl (Sub.skip rfl (Sub.skip rfl (Sub.skip rfl (Sub.skip rfl (Sub.skip rfl (Sub.skip rfl (Sub.skip rfl (Sub.skip rfl (Sub.refl _)))))))))))))) hk
      refine o_nil ?_
      refine q_then ?_
      refine c_cond (b := (decide ((passed : Int) < (c.frames.length : Int)) && (lc[((c.hand + (passed : Int)).tmod (c.frames.length : Int)).toNat]).used)) rfl (fun hc14 => ?_) (fun hc14 => ?_)
      · simp only [Bool.and_eq_true, decide_eq_true_eq] at hc14
        refine c_skip ?_
        refine q_then ?_
        refine c_block ?_
        refine c_seq ?_
        refine c_region ?_
        refine o_pure (p_move (v := .slice a5 lc.length c6) rfl) rfl rfl rfl ?_
        refine o_pure (p_fieldAddr (B := B1) (j := 0) (j' := 1) rfl fo59_1 rfl) rfl rfl rfl ?_
        refine o_pure (p_load (i := 2) (v := .int .i64 c.hand) rfl rfl sh3 rfl) rfl rfl rfl ?_
        refine o_pure (p_move (v := .int .i64 (passed : Int)) rfl) rfl rfl rfl ?_
        refine o_pure (p_addb (p := c.hand) (q := (passed : Int)) rfl rfl (by omega)) rfl rfl rfl ?_
        refine o_pure (p_move (v := .int .i64 (c.frames.length : Int)) rfl) rfl rfl rfl ?_
        refine o_pure (p_rem (p := (c.hand + (passed : Int))) (q := (c.frames.length : Int)) rfl rfl (by omega)) rfl rfl rfl ?_
        refine o_pure (p_indexAddr (L := lc) (T := tFrame) (i := ((c.hand + (passed : Int)).tmod (c.frames.length : Int))) rfl rfl (rd_own (i := 0) rfl) Try.underlying57 sz73 (by omega) (by omega)) rfl rfl rfl ?_
        refine o_pure (p_fieldAddrE rfl fo73_1) rfl rfl rfl ?_
        refine o_storeF (j := 1) (i := 0) (T := tFrame) (idx := ((c.hand + (passed : Int)).tmod (c.frames.length : Int)).toNat) (v := .bool false) (vs := [.bool false]) (z := (⟨(lc[((c.hand + (passed : Int)).tmod (c.frames.length : Int)).toNat]).key, false⟩ : DFrame)) (F' := [(1, .int .i64 key), (2, .pointer (some ⟨B1, 0, none⟩)), (4, .pointer (some ⟨B2, 0, none⟩)), (7, .slice a5 (lc.set (((c.hand + (passed : Int)).tmod (c.frames.length : Int)).toNat) (⟨(lc[((c.hand + (passed : Int)).tmod (c.frames.length : Int)).toNat]).key, false⟩ : DFrame)).length c6), (8, .int .i64 (c.frames.length : Int)), (10, .int .i64 (passed : Int))]) rfl rfl rfl rfl (by first | assumption | omega | (simp only [List.length_set]; omega)) sz4 rfl rfl rfl rfl (Sub.cons rfl (Sub.cons rfl (Sub.cons rfl (Sub.cons (by simp only [List.length_set]; rfl) (Sub.cons rfl (Sub.cons rfl (Sub.nil _))))))) ?_
        refine o_nil ?_
        refine q_then ?_
        refine c_region ?_
        refine o_pure (p_move (v := .int .i64 (passed : Int)) rfl) rfl rfl rfl ?_
        refine o_pure (p_addb (p := (passed : Int)) (q := 1) rfl rfl (by omega)) rfl rfl rfl ?_
        refine o_pure (p_assign (v := .int .i64 ((passed : Int) + 1)) rfl) rfl rfl rfl ?_
        refine o_nil ?_
        refine q_block_normal ?_
        refine q_round hK12 (passed + 1, (lc.set (((c.hand + (passed : Int)).tmod (c.frames.length : Int)).toNat) (⟨(lc[((c.hand + (passed : Int)).tmod (c.frames.length : Int)).toNat]).key, false⟩ : DFrame))) ?_ ?_ ?_ ?_
        · clear hK12
          exact hI.next hy1 (by omega) (by omega) (by simp_all)
        · (try dsimp only); omega
        · exact Sub.cons rfl (Sub.cons rfl (Sub.cons rfl (Sub.cons rfl (Sub.cons rfl (Sub.cons rfl (Sub.nil _))))))
        · exact fun _ hw => HeapIs.pick hw [0, 1, 2, 3] (by decide) rfl
      · simp only [Bool.and_eq_false_iff, decide_eq_false_iff_not, Int.not_lt] at hc14
        refine c_exit ?_
        refine q_then_exit (q_then_exit (q_block_exit (q_then ?_)))
        refine c_seq ?_
        refine c_region ?_
        refine o_pure (p_fieldAddr (B := B1) (j := 0) (j' := 1) rfl fo59_1 rfl) rfl rfl rfl ?_
        refine o_pure (p_load (i := 2) (v := .int .i64 c.hand) rfl rfl sh3 rfl) rfl rfl rfl ?_
        refine o_pure (p_move (v := .int .i64 (passed : Int)) rfl) rfl rfl rfl ?_
        refine o_pure (p_addb (p := c.hand) (q := (passed : Int)) rfl rfl (by omega)) rfl rfl rfl ?_
        refine o_pure (p_move (v := .int .i64 (c.frames.length : Int)) rfl) rfl rfl rfl ?_
        refine o_pure (p_rem (p := (c.hand + (passed : Int))) (q := (c.frames.length : Int)) rfl rfl (by omega)) rfl rfl rfl ?_
        refine o_pure (p_assign (v := .int .i64 ((c.hand + (passed : Int)).tmod (c.frames.length : Int))) rfl) rfl rfl rfl ?_
        refine o_nil ?_
        refine q_then ?_
        refine c_seq ?_
        refine c_region ?_
        refine o_pure (p_move (v := .slice a5 lc.length c6) rfl) rfl rfl rfl ?_
        refine o_pure (p_move (v := .int .i64 ((c.hand + (passed : Int)).tmod (c.frames.length : Int))) rfl) rfl rfl rfl ?_
        refine o_pure (p_indexAddr (L := lc) (T := tFrame) (i := ((c.hand + (passed : Int)).tmod (c.frames.length : Int))) rfl rfl (rd_own (i := 0) rfl) Try.underlying57 sz73 (by omega) (by omega)) rfl rfl rfl ?_
        refine o_pure (p_fieldAddrE rfl fo73_0) rfl rfl rfl ?_
        refine o_pure (p_loadF (i := ((c.hand + (passed : Int)).tmod (c.frames.length : Int)).toNat) (j := 0) (T := tFrame) (L := lc) (v := .int .i64 ((lc[((c.hand + (passed : Int)).tmod (c.frames.length : Int)).toNat]).key)) rfl (rd_own (i := 0) rfl) (by first | assumption | omega) sh3 rfl) rfl rfl rfl ?_
        refine o_pure (p_assign (v := .int .i64 ((lc[((c.hand + (passed : Int)).tmod (c.frames.length : Int)).toNat]).key)) rfl) rfl rfl rfl ?_
        refine o_nil ?_
        refine q_then ?_
        refine c_seq ?_
        refine c_region ?_
        refine o_pure (p_move (v := .slice a5 lc.length c6) rfl) rfl rfl rfl ?_
        refine o_pure (p_move (v := .int .i64 ((c.hand + (passed : Int)).tmod (c.frames.length : Int))) rfl) rfl rfl rfl ?_
        refine o_pure (p_move (v := .int .i64 key) rfl) rfl rfl rfl ?_
        refine o_pure (p_build (cells := [.int .i64 key, .bool false]) fp73 ze73 rfl rfl) rfl rfl rfl ?_
        refine o_pure (p_indexAddr (L := lc) (T := tFrame) (i := ((c.hand + (passed : Int)).tmod (c.frames.length : Int))) rfl rfl (rd_own (i := 0) rfl) Try.underlying57 sz73 (by omega) (by omega)) rfl rfl rfl ?_
        refine o_storeW (i := 0) (T := tFrame) (idx := ((c.hand + (passed : Int)).tmod (c.frames.length : Int)).toNat) (v := .agg #[.int .i64 key, .bool false]) (vs := [.int .i64 key, .bool false]) (z := (⟨key, false⟩ : DFrame)) (F' := [(2, .pointer (some ⟨B1, 0, none⟩)), (4, .pointer (some ⟨B2, 0, none⟩)), (7, .slice a5 (lc.set (((c.hand + (passed : Int)).tmod (c.frames.length : Int)).toNat) (⟨key, false⟩ : DFrame)).length c6), (8, .int .i64 (c.frames.length : Int)), (11, .int .i64 ((c.hand + (passed : Int)).tmod (c.frames.length : Int))), (12, .int .i64 ((lc[((c.hand + (passed : Int)).tmod (c.frames.length : Int)).toNat]).key))]) rfl rfl rfl rfl (by first | assumption | omega | (simp only [List.length_set]; omega)) sz73 rfl rfl rfl rfl (Sub.cons rfl (Sub.cons rfl (Sub.cons (by simp only [List.length_set]; rfl) (Sub.cons rfl (Sub.cons rfl (Sub.cons rfl (Sub.nil _))))))) ?_
        refine o_nil ?_
        refine q_then ?_
        refine c_seq ?_
        refine c_held hmix [own tFrame S3 a5 c6 (lc.set (((c.hand + (passed : Int)).tmod (c.frames.length : Int)).toNat) (⟨key, false⟩ : DFrame)), box B1 [.int .i64 c.room, .int .i64 c.hand, .slice ac_0 c.frames.length cc_0] 59, base w0] rfl rfl ?_
        refine h_take (i := 0) (ls := #[true, false, false, false, false, false, false, false, false, false, false, false]) rfl (by kernel_rfl) (by kernel_rfl) (by kernel_rfl) (fun _ _ _ h => h) (p_fieldAddr (B := B1) (j := 0) (j' := 0) rfl fo59_0 rfl) rfl rfl rfl (fun _ hw => HeapIs.drop hw (List.Sublist.cons_cons _ (List.Sublist.cons _ (List.Sublist.cons_cons _ (List.Sublist.cons_cons _ (List.Sublist.slnil)))))) rfl ?_
        refine h_take (i := 1) (ls := #[true, true, false, false, false, false, false, false, false, false, false, false]) rfl (by kernel_rfl) (by kernel_rfl) (by kernel_rfl) (fun _ _ _ h => h) (p_load (i := 1) (v := .int .i64 c.room) rfl rfl sh3 rfl) rfl rfl rfl (fun _ hw => HeapIs.drop hw (List.Sublist.cons_cons _ (List.Sublist.cons _ (List.Sublist.cons_cons _ (List.Sublist.cons_cons _ (List.Sublist.slnil)))))) rfl ?_
        refine h_take (i := 2) (ls := #[true, true, true, false, false, false, false, false, false, false, false, false]) rfl (by kernel_rfl) (by kernel_rfl) (by kernel_rfl) (fun _ _ _ h => h) (p_move (v := .int .i64 ((c.hand + (passed : Int)).tmod (c.frames.length : Int))) rfl) rfl rfl rfl (fun _ hw => HeapIs.drop hw (List.Sublist.cons_cons _ (List.Sublist.cons _ (List.Sublist.cons_cons _ (List.Sublist.cons_cons _ (List.Sublist.slnil)))))) rfl ?_
        refine h_take (i := 3) (ls := #[true, true, true, true, false, false, false, false, false, false, false, false]) rfl (by kernel_rfl) (by kernel_rfl) (by kernel_rfl) (fun _ _ _ h => h) (p_addb (p := ((c.hand + (passed : Int)).tmod (c.frames.length : Int))) (q := 1) rfl rfl (by omega)) rfl rfl rfl (fun _ hw => HeapIs.drop hw (List.Sublist.cons_cons _ (List.Sublist.cons _ (List.Sublist.cons_cons _ (List.Sublist.cons_cons _ (List.Sublist.slnil)))))) rfl ?_
        refine h_take (i := 4) (ls := #[true, true, true, true, true, false, false, false, false, false, false, false]) rfl (by kernel_rfl) (by kernel_rfl) (by kernel_rfl) (fun _ _ _ h => h) (p_move (v := .int .i64 (c.frames.length : Int)) rfl) rfl rfl rfl (fun _ hw => HeapIs.drop hw (List.Sublist.cons_cons _ (List.Sublist.cons _ (List.Sublist.cons_cons _ (List.Sublist.cons_cons _ (List.Sublist.slnil)))))) rfl ?_
        refine h_take (i := 5) (ls := #[true, true, true, true, true, true, false, false, false, false, false, false]) rfl (by kernel_rfl) (by kernel_rfl) (by kernel_rfl) (fun _ _ _ h => h) (p_rem (p := (((c.hand + (passed : Int)).tmod (c.frames.length : Int)) + 1)) (q := (c.frames.length : Int)) rfl rfl (by omega)) rfl rfl rfl (fun _ hw => HeapIs.drop hw (List.Sublist.cons_cons _ (List.Sublist.cons _ (List.Sublist.cons_cons _ (List.Sublist.cons_cons _ (List.Sublist.slnil)))))) rfl ?_
        refine h_take (i := 6) (ls := #[true, true, true, true, true, true, true, false, false, false, false, false]) rfl (by kernel_rfl) (by kernel_rfl) (by kernel_rfl) (fun _ _ _ h => h) (p_move (v := .slice a5 (lc.set (((c.hand + (passed : Int)).tmod (c.frames.length : Int)).toNat) (⟨key, false⟩ : DFrame)).length c6) rfl) rfl rfl rfl (fun _ hw => HeapIs.drop hw (List.Sublist.cons_cons _ (List.Sublist.cons _ (List.Sublist.cons_cons _ (List.Sublist.cons_cons _ (List.Sublist.slnil)))))) rfl ?_
        refine h_take (i := 7) (ls := #[true, true, true, true, true, true, true, true, false, false, false, false]) rfl (by kernel_rfl) (by kernel_rfl) (by kernel_rfl) (fun _ _ _ h => h) (p_build (cells := [.int .i64 c.room, .int .i64 ((((c.hand + (passed : Int)).tmod (c.frames.length : Int)) + 1).tmod (c.frames.length : Int)), .slice a5 (lc.set (((c.hand + (passed : Int)).tmod (c.frames.length : Int)).toNat) (⟨key, false⟩ : DFrame)).length c6]) fp59 ze59 rfl rfl) rfl rfl rfl (fun _ hw => HeapIs.drop hw (List.Sublist.cons_cons _ (List.Sublist.cons _ (List.Sublist.cons_cons _ (List.Sublist.cons_cons _ (List.Sublist.slnil)))))) rfl ?_
        refine h_take (i := 8) (ls := #[true, true, true, true, true, true, true, true, true, false, false, false]) rfl (by kernel_rfl) (by kernel_rfl) (by kernel_rfl) (fun _ _ _ h => h) (p_move (v := .int .i64 ((lc[((c.hand + (passed : Int)).tmod (c.frames.length : Int)).toNat]).key)) rfl) rfl rfl rfl (fun _ hw => HeapIs.drop hw (List.Sublist.cons_cons _ (List.Sublist.cons _ (List.Sublist.cons_cons _ (List.Sublist.cons_cons _ (List.Sublist.slnil)))))) rfl ?_
        refine h_one (i := 9) (ls := #[true, true, true, true, true, true, true, true, true, true, false, false]) (by kernel_rfl) rfl rfl ?_
        refine o_storeN (i := 1) (vs := [.int .i64 c.room, .int .i64 ((((c.hand + (passed : Int)).tmod (c.frames.length : Int)) + 1).tmod (c.frames.length : Int)), .slice a5 (lc.set (((c.hand + (passed : Int)).tmod (c.frames.length : Int)).toNat) (⟨key, false⟩ : DFrame)).length c6]) (cs' := [.int .i64 c.room, .int .i64 ((((c.hand + (passed : Int)).tmod (c.frames.length : Int)) + 1).tmod (c.frames.length : Int)), .slice a5 (lc.set (((c.hand + (passed : Int)).tmod (c.frames.length : Int)).toNat) (⟨key, false⟩ : DFrame)).length c6]) rfl rfl rfl sz59 rfl rfl rfl rfl ?_
        refine o_nil ?_
        refine h_next (fun _ hw => HeapIs.drop hw (List.Sublist.cons_cons _ (List.Sublist.cons _ (List.Sublist.cons_cons _ (List.Sublist.cons_cons _ (List.Sublist.slnil)))))) ?_
        refine h_take (i := 10) (ls := #[true, true, true, true, true, true, true, true, true, true, true, false]) rfl (by kernel_rfl) (by kernel_rfl) (by kernel_rfl) (fun _ _ _ h => h) (p_assign (v := .bool false) rfl) rfl rfl rfl (fun _ hw => HeapIs.drop hw (List.Sublist.cons_cons _ (List.Sublist.cons _ (List.Sublist.cons_cons _ (List.Sublist.cons_cons _ (List.Sublist.slnil)))))) rfl ?_
        refine h_take (i := 11) (ls := #[true, true, true, true, true, true, true, true, true, true, true, true]) rfl (by kernel_rfl) (by kernel_rfl) (by kernel_rfl) (fun _ _ _ h => h) (p_assign (v := .int .i64 ((lc[((c.hand + (passed : Int)).tmod (c.frames.length : Int)).toNat]).key)) rfl) rfl rfl rfl (fun _ hw => HeapIs.drop hw (List.Sublist.cons_cons _ (List.Sublist.cons _ (List.Sublist.cons_cons _ (List.Sublist.cons_cons _ (List.Sublist.slnil)))))) rfl ?_
        refine h_done (by kernel_rfl) ?_
        refine q_then ?_
        refine c_ret ?_
        first
          | have ht := Clock.touch_hit2 (c := c) (key := key) (by omega) (by assumption) hI2
          | have ht := Clock.touch_room (c := c) (key := key) hid (by omega)
          | have ht := Clock.touch_ref (key := key) hy1 hI hid (by omega) (by omega) (by assumption)
        have hr0 : (c.room : Int) = ((Clock.touch c key).1).room := by
          simp only [ht, List.length_set]
        have hr1 : (((((c.hand + (passed : Int)).tmod (c.frames.length : Int)) + 1).tmod (c.frames.length : Int)) : Int) = ((Clock.touch c key).1).hand := by
          simp only [ht, List.length_set]
        have hr2 : ((lc.set (((c.hand + (passed : Int)).tmod (c.frames.length : Int)).toNat) (⟨key, false⟩ : DFrame)) : List DFrame) = ((Clock.touch c key).1).frames := by
          simp only [ht, List.length_set]
        have hr3 : (false : Bool) = ((Clock.touch c key).2.1) := by
          simp only [ht, List.length_set]
        have hr4 : ((lc[((c.hand + (passed : Int)).tmod (c.frames.length : Int)).toNat]).key : Int) = ((Clock.touch c key).2.2) := by
          simp only [ht, List.length_set]
        refine q_endM (p := (a5, c6)) S3 (rt3 rfl (r_cell (i := 1) rfl rfl sh59 rfl) (r_tmp rfl) (r_tmp rfl)) (i := 3) rfl ?_ ?_ ?_
        · exact (by have hcc := congr (congr (congr (congr (congrArg (fun (y0 : Int) (y1 : Int) (y2 : List DFrame) (y3 : Bool) (y4 : Int) => (.tuple #[.agg #[.int .i64 y0, .int .i64 y1, .slice a5 y2.length c6], .bool y3, .int .i64 y4] : Value)) hr0) hr1) hr2) hr3) hr4; exact hcc)
        · exact fun w hw => hw.above (i := 3) (j := 0) (by decide) rfl rfl
        · intro w hw; exact Eq.mp (congrArg (fun y => SlO tFrame _ w a5 c6 y) hr2) ((hw.at (i := 0) rfl).here)

set_option maxHeartbeats 8000000 in
set_option maxRecDepth 100000 in
theorem clockRun_ok (c : DClock) (ac_0 : Option Addr) (cc_0 : Nat) (l : List Int) (al : Option Addr) (cl : Nat) (hy1 : Clock.Ok c) : FnM Try.prog 42 [.agg #[.int .i64 c.room, .int .i64 c.hand, .slice ac_0 c.frames.length cc_0], .slice al l.length cl] (fun w => Rd tFrame w ac_0 cc_0 c.frames ∧ Rd tInt w al cl l) (Option Addr × Nat) (fun p => .tuple #[.agg #[.int .i64 (((Clock.runGo c 0 l).1).room), .int .i64 (((Clock.runGo c 0 l).1).hand), .slice p.1 (((Clock.runGo c 0 l).1).frames).length p.2], .int .i64 ((Clock.runGo c 0 l).2)]) (fun p S w => (SlR tFrame S w p.1 p.2 (((Clock.runGo c 0 l).1).frames) ∨ (p.1 = ac_0 ∧ p.2 = cc_0 ∧ (((Clock.runGo c 0 l).1).frames) = c.frames))) := by
  refine fnM (nt := 33) (F0 := [(0, .agg #[.int .i64 c.room, .int .i64 c.hand, .slice ac_0 c.frames.length cc_0]), (1, .slice al l.length cl)]) Try.func42 rfl Try.ntmps42 rfl rfl (fun w0 hpre => ?_)
  obtain ⟨hc_0, hl⟩ := hpre
  have hlhc_0 := hc_0.2.1
  have hlhl := hl.2.1
  refine c_seq ?_
  refine c_region ?_
  refine o_box (v := .agg #[.int .i64 c.room, .int .i64 c.hand, .slice ac_0 c.frames.length cc_0]) rfl rfl (fun B1 => ?_)
  refine o_alloc ze59 rfl (fun B2 => ?_)
  refine o_pure (p_assign (v := .int .i64 0) rfl) rfl rfl rfl ?_
  refine o_nil ?_
  refine q_then ?_
  refine c_seq ?_
  refine c_region ?_
  refine o_pure (p_assign (v := .int .i64 0) rfl) rfl rfl rfl ?_
  refine o_nil ?_
  refine q_then ?_
  refine c_seq ?_
  refine c_seq ?_
  refine c_region ?_
  refine o_pure (p_assign (v := .int .i64 0) rfl) rfl rfl rfl ?_
  refine o_nil ?_
  refine q_then ?_
  refine c_block ?_
  refine c_heap (H' := [loose tFrame (ac_0 = ac_0 ∧ cc_0 = cc_0 ∧ c.frames = c.frames) (fun _ => False) ac_0 cc_0 c.frames, box B2 [.int .i64 0, .int .i64 0, .slice none 0 0] 59, box B1 [.int .i64 c.room, .int .i64 c.hand, .slice ac_0 c.frames.length cc_0] 59, base w0]) (fun w hw => HeapIs.looseOf ⟨rfl, rfl, rfl⟩ hw) ?_
  refine c_loop (St := Int × Nat × DClock × Option Addr × Nat × (Nat → Prop))
    (fun ⟨hits, i, cc, acc_0, ccc_0, Scc_0⟩ => [(1, .slice al l.length cl), (2, .pointer (some ⟨B1, 0, none⟩)), (4, .pointer (some ⟨B2, 0, none⟩)), (6, .int .i64 hits), (7, .int .i64 (i : Int))])
    (fun ⟨hits, i, cc, acc_0, ccc_0, Scc_0⟩ => [loose tFrame (acc_0 = ac_0 ∧ ccc_0 = cc_0 ∧ cc.frames = c.frames) Scc_0 acc_0 ccc_0 cc.frames, box B2 [.int .i64 0, .int .i64 0, .slice none 0 0] 59, box B1 [.int .i64 cc.room, .int .i64 cc.hand, .slice acc_0 cc.frames.length ccc_0] 59, base w0])
    (fun ⟨hits, i, cc, acc_0, ccc_0, Scc_0⟩ => Clock.RInv c cc l hits i)
    (fun ⟨hits, i, cc, acc_0, ccc_0, Scc_0⟩ => l.length - i)
    (0, 0, c, ac_0, cc_0, (fun _ => False)) ?_ (Sub.cons rfl (Sub.cons rfl (Sub.cons rfl (Sub.cons rfl (Sub.cons rfl (Sub.nil _)))))) (fun _ hw => hw) ?_
  · exact Clock.RInv.start hy1 l
  rintro ⟨hits, i, cc, acc_0, ccc_0, Scc_0⟩ hI K hK4
  have hn0 := hI.n0
  have hn1 := hI.n1
  show SC _ _ Try.prog 33 w0 _ _ [(1, .slice al l.length cl), (2, .pointer (some ⟨B1, 0, none⟩)), (4, .pointer (some ⟨B2, 0, none⟩)), (6, .int .i64 hits), (7, .int .i64 (i : Int))] [loose tFrame (acc_0 = ac_0 ∧ ccc_0 = cc_0 ∧ cc.frames = c.frames) Scc_0 acc_0 ccc_0 cc.frames, box B2 [.int .i64 0, .int .i64 0, .slice none 0 0] 59, box B1 [.int .i64 cc.room, .int .i64 cc.hand, .slice acc_0 cc.frames.length ccc_0] 59, base w0]
  refine c_seq ?_
  refine c_seq ?_
  refine c_region ?_
  refine o_pure (p_move (v := .int .i64 (i : Int)) rfl) rfl rfl rfl ?_
  refine o_pure (p_move (v := .slice al l.length cl) rfl) rfl rfl rfl ?_
  refine o_pure (p_len_slice (len := l.length) rfl rfl Try.underlying22) rfl rfl rfl ?_
  refine o_pure (p_lt (p := (i : Int)) (q := (l.length : Int)) rfl rfl) rfl rfl rfl ?_
  refine o_nil ?_
  refine q_then ?_
  refine c_cond (b := decide ((i : Int) < (l.length : Int))) rfl (fun hc5 => ?_) (fun hc5 => ?_)
  · simp only [decide_eq_true_eq] at hc5
    refine c_skip ?_
    refine q_then ?_
    refine c_seq ?_
    refine c_block ?_
    refine c_seq ?_
    refine c_cut (G := (Nat → Prop) × Option Addr × Nat × Nat) (fun ⟨S6_5, a6_5, c6_5, B6_10⟩ => [(1, .slice al l.length cl), (2, .pointer (some ⟨B1, 0, none⟩)), (4, .pointer (some ⟨B2, 0, none⟩)), (6, .int .i64 hits), (7, .int .i64 (i : Int)), (8, .pointer (some ⟨B6_10, 0, none⟩)), (9, .bool ((Clock.touch cc (l[i])).2.1))]) (fun ⟨S6_5, a6_5, c6_5, B6_10⟩ => [box B6_10 [.int .i64 (((Clock.touch cc (l[i])).1).room), .int .i64 (((Clock.touch cc (l[i])).1).hand), .slice a6_5 (((Clock.touch cc (l[i])).1).frames).length c6_5] 59, own tFrame S6_5 a6_5 c6_5 (((Clock.touch cc (l[i])).1).frames), loose tFrame (acc_0 = ac_0 ∧ ccc_0 = cc_0 ∧ cc.frames = c.frames) Scc_0 acc_0 ccc_0 cc.frames, box B2 [.int .i64 0, .int .i64 0, .slice none 0 0] 59, box B1 [.int .i64 cc.room, .int .i64 cc.hand, .slice acc_0 cc.frames.length ccc_0] 59, base w0]) (fun K hK7 => ?_) ?_
    · refine c_held hmix [loose tFrame (acc_0 = ac_0 ∧ ccc_0 = cc_0 ∧ cc.frames = c.frames) Scc_0 acc_0 ccc_0 cc.frames, box B2 [.int .i64 0, .int .i64 0, .slice none 0 0] 59, box B1 [.int .i64 cc.room, .int .i64 cc.hand, .slice acc_0 cc.frames.length ccc_0] 59, base w0] rfl rfl ?_
      refine h_take (i := 0) (ls := #[true, false, false, false, false, false, false, false, false, false, false, false, false, false]) rfl (by kernel_rfl) (by kernel_rfl) (by kernel_rfl) (fun _ _ _ h => h) (p_load_agg (i := 2) (vs := [.int .i64 cc.room, .int .i64 cc.hand, .slice acc_0 cc.frames.length ccc_0]) rfl rfl sh59 rfl rfl) rfl rfl rfl (fun _ hw => HeapIs.drop hw (List.Sublist.refl _)) rfl ?_
      refine h_take (i := 1) (ls := #[true, true, false, false, false, false, false, false, false, false, false, false, false, false]) rfl (by kernel_rfl) (by kernel_rfl) (by kernel_rfl) (fun _ _ _ h => h) (p_move (v := .slice al l.length cl) rfl) rfl rfl rfl (fun _ hw => HeapIs.drop hw (List.Sublist.refl _)) rfl ?_
      refine h_take (i := 2) (ls := #[true, true, true, false, false, false, false, false, false, false, false, false, false, false]) rfl (by kernel_rfl) (by kernel_rfl) (by kernel_rfl) (fun _ _ _ h => h) (p_move (v := .int .i64 (i : Int)) rfl) rfl rfl rfl (fun _ hw => HeapIs.drop hw (List.Sublist.refl _)) rfl ?_
      refine h_take (i := 3) (ls := #[true, true, true, true, false, false, false, false, false, false, false, false, false, false]) rfl (by kernel_rfl) (by kernel_rfl) (by kernel_rfl) (fun _ _ _ h => h) (p_indexAddr (L := l) (T := tInt) (i := (i : Int)) rfl rfl (rd_base (i := 3) rfl hl) Try.underlying22 sz3 (by omega) (by omega)) rfl rfl rfl (fun _ hw => HeapIs.drop hw (List.Sublist.refl _)) rfl ?_
      refine h_take (i := 4) (ls := #[true, true, true, true, true, false, false, false, false, false, false, false, false, false]) rfl (by kernel_rfl) (by kernel_rfl) (by kernel_rfl) (fun _ _ _ h => h) (p_loadE1 (i := i) (T := tInt) (L := l) (v := .int .i64 (l[i])) rfl (rd_base (i := 3) rfl hl) (by first | assumption | omega) sh3 rfl) rfl rfl rfl (fun _ hw => HeapIs.drop hw (List.Sublist.refl _)) rfl ?_
      refine h_two (i := 5) (j := 10) (ls := #[true, true, true, true, true, true, false, false, false, false, false, false, false, false]) (ls' := #[true, true, true, true, true, false, false, false, false, false, true, false, false, false]) (by kernel_rfl) rfl rfl rfl rfl ?_ ?_
      · refine o_callM rfl (clockTouch_ok cc acc_0 ccc_0 (l[i]) (by first | assumption | exact hI.ok | omega)) hf41 (fun w hw => (rd_loose (i := 0) rfl (fun hφ => by obtain ⟨h1, h2, h3⟩ := hφ; rw [h1, h2, h3]; exact (rd_base (i := 3) rfl hc_0))) w hw) rfl (fun _ _ _ _ ha hA => SlO.agree ha hA) ?_
        rintro ⟨a6_5, c6_5⟩ S6_5
        refine o_nil ?_
        refine h_next (fun _ hw => HeapIs.drop hw (List.Sublist.cons _ (List.Sublist.cons_cons _ (List.Sublist.cons_cons _ (List.Sublist.cons_cons _ (List.Sublist.cons_cons _ (List.Sublist.slnil))))))) ?_
        refine h_take (i := 6) (ls := #[true, true, true, true, true, true, true, false, false, false, false, false, false, false]) rfl (by kernel_rfl) (by kernel_rfl) (by kernel_rfl) (fun _ _ _ h => h) (p_move (v := .tuple #[.agg #[.int .i64 (((Clock.touch cc (l[i])).1).room), .int .i64 (((Clock.touch cc (l[i])).1).hand), .slice a6_5 (((Clock.touch cc (l[i])).1).frames).length c6_5], .bool ((Clock.touch cc (l[i])).2.1), .int .i64 ((Clock.touch cc (l[i])).2.2)]) rfl) rfl rfl rfl (fun _ hw => HeapIs.drop hw (List.Sublist.cons _ (List.Sublist.cons_cons _ (List.Sublist.cons_cons _ (List.Sublist.cons_cons _ (List.Sublist.cons_cons _ (List.Sublist.slnil))))))) rfl ?_
        refine h_take (i := 7) (ls := #[true, true, true, true, true, true, true, true, false, false, false, false, false, false]) rfl (by kernel_rfl) (by kernel_rfl) (by kernel_rfl) (fun _ _ _ h => h) (p_extract (vs := [.agg #[.int .i64 (((Clock.touch cc (l[i])).1).room), .int .i64 (((Clock.touch cc (l[i])).1).hand), .slice a6_5 (((Clock.touch cc (l[i])).1).frames).length c6_5], .bool ((Clock.touch cc (l[i])).2.1), .int .i64 ((Clock.touch cc (l[i])).2.2)]) (v := .agg #[.int .i64 (((Clock.touch cc (l[i])).1).room), .int .i64 (((Clock.touch cc (l[i])).1).hand), .slice a6_5 (((Clock.touch cc (l[i])).1).frames).length c6_5]) rfl rfl) rfl rfl rfl (fun _ hw => HeapIs.drop hw (List.Sublist.cons _ (List.Sublist.cons_cons _ (List.Sublist.cons_cons _ (List.Sublist.cons_cons _ (List.Sublist.cons_cons _ (List.Sublist.slnil))))))) rfl ?_
        refine h_take (i := 8) (ls := #[true, true, true, true, true, true, true, true, true, false, false, false, false, false]) rfl (by kernel_rfl) (by kernel_rfl) (by kernel_rfl) (fun _ _ _ h => h) (p_extract (vs := [.agg #[.int .i64 (((Clock.touch cc (l[i])).1).room), .int .i64 (((Clock.touch cc (l[i])).1).hand), .slice a6_5 (((Clock.touch cc (l[i])).1).frames).length c6_5], .bool ((Clock.touch cc (l[i])).2.1), .int .i64 ((Clock.touch cc (l[i])).2.2)]) (v := .bool ((Clock.touch cc (l[i])).2.1)) rfl rfl) rfl rfl rfl (fun _ hw => HeapIs.drop hw (List.Sublist.cons _ (List.Sublist.cons_cons _ (List.Sublist.cons_cons _ (List.Sublist.cons_cons _ (List.Sublist.cons_cons _ (List.Sublist.slnil))))))) rfl ?_
        refine h_take (i := 9) (ls := #[true, true, true, true, true, true, true, true, true, true, false, false, false, false]) rfl (by kernel_rfl) (by kernel_rfl) (by kernel_rfl) (fun _ _ _ h => h) (p_extract (vs := [.agg #[.int .i64 (((Clock.touch cc (l[i])).1).room), .int .i64 (((Clock.touch cc (l[i])).1).hand), .slice a6_5 (((Clock.touch cc (l[i])).1).frames).length c6_5], .bool ((Clock.touch cc (l[i])).2.1), .int .i64 ((Clock.touch cc (l[i])).2.2)]) (v := .int .i64 ((Clock.touch cc (l[i])).2.2)) rfl rfl) rfl rfl rfl (fun _ hw => HeapIs.drop hw (List.Sublist.cons _ (List.Sublist.cons_cons _ (List.Sublist.cons_cons _ (List.Sublist.cons_cons _ (List.Sublist.cons_cons _ (List.Sublist.slnil))))))) rfl ?_
        refine h_one (i := 10) (ls := #[true, true, true, true, true, true, true, true, true, true, true, false, false, false]) (by kernel_rfl) rfl rfl ?_
        refine o_alloc ze59 rfl (fun B6_10 => ?_)
        refine o_nil ?_
        refine h_next (fun _ hw => HeapIs.drop hw (List.Sublist.cons _ (List.Sublist.cons _ (List.Sublist.cons_cons _ (List.Sublist.cons_cons _ (List.Sublist.cons_cons _ (List.Sublist.cons_cons _ (List.Sublist.slnil)))))))) ?_
        refine h_one (i := 11) (ls := #[true, true, true, true, true, true, true, true, true, true, true, true, false, false]) (by kernel_rfl) rfl rfl ?_
        refine o_storeN (i := 0) (vs := [.int .i64 (((Clock.touch cc (l[i])).1).room), .int .i64 (((Clock.touch cc (l[i])).1).hand), .slice a6_5 (((Clock.touch cc (l[i])).1).frames).length c6_5]) (cs' := [.int .i64 (((Clock.touch cc (l[i])).1).room), .int .i64 (((Clock.touch cc (l[i])).1).hand), .slice a6_5 (((Clock.touch cc (l[i])).1).frames).length c6_5]) rfl rfl rfl sz59 rfl rfl rfl rfl ?_
        refine o_nil ?_
        refine h_next (fun _ hw => HeapIs.drop hw (List.Sublist.cons _ (List.Sublist.cons _ (List.Sublist.cons_cons _ (List.Sublist.cons_cons _ (List.Sublist.cons_cons _ (List.Sublist.cons_cons _ (List.Sublist.slnil)))))))) ?_
        refine h_take (i := 12) (ls := #[true, true, true, true, true, true, true, true, true, true, true, true, true, false]) rfl (by kernel_rfl) (by kernel_rfl) (by kernel_rfl) (fun _ _ _ h => h) (p_assign (v := .bool ((Clock.touch cc (l[i])).2.1)) rfl) rfl rfl rfl (fun _ hw => HeapIs.drop hw (List.Sublist.cons _ (List.Sublist.cons _ (List.Sublist.cons_cons _ (List.Sublist.cons_cons _ (List.Sublist.cons_cons _ (List.Sublist.cons_cons _ (List.Sublist.slnil)))))))) rfl ?_
        refine h_take (i := 13) (ls := #[true, true, true, true, true, true, true, true, true, true, true, true, true, true]) rfl (by kernel_rfl) (by kernel_rfl) (by kernel_rfl) (fun _ _ _ h => h) (p_assign (v := .int .i64 ((Clock.touch cc (l[i])).2.2)) rfl) rfl rfl rfl (fun _ hw => HeapIs.drop hw (List.Sublist.cons _ (List.Sublist.cons _ (List.Sublist.cons_cons _ (List.Sublist.cons_cons _ (List.Sublist.cons_cons _ (List.Sublist.cons_cons _ (List.Sublist.slnil)))))))) rfl ?_
        refine h_done (by kernel_rfl) ?_
        refine q_kont hK7 (S6_5, a6_5, c6_5, B6_10) (Sub.cons rfl (Sub.cons rfl (Sub.cons rfl (Sub.cons rfl (Sub.cons rfl (Sub.cons rfl (Sub.cons rfl (Sub.nil _)))))))) (fun _ hw => HeapIs.pick hw [0, 1, 2, 3, 4, 5] (by decide) rfl)
      · refine o_alloc ze59 rfl (fun B6_10 => ?_)
        refine o_nil ?_
        refine h_next (fun _ hw => HeapIs.drop hw (List.Sublist.cons _ (List.Sublist.cons_cons _ (List.Sublist.cons_cons _ (List.Sublist.cons_cons _ (List.Sublist.cons_cons _ (List.Sublist.slnil))))))) ?_
        refine h_one (i := 5) (ls := #[true, true, true, true, true, true, false, false, false, false, true, false, false, false]) (by kernel_rfl) rfl rfl ?_
        refine o_callM rfl (clockTouch_ok cc acc_0 ccc_0 (l[i]) (by first | assumption | exact hI.ok | omega)) hf41 (fun w hw => (rd_loose (i := 1) rfl (fun hφ => by obtain ⟨h1, h2, h3⟩ := hφ; rw [h1, h2, h3]; exact (rd_base (i := 4) rfl hc_0))) w hw) rfl (fun _ _ _ _ ha hA => SlO.agree ha hA) ?_
        rintro ⟨a6_5, c6_5⟩ S6_5
        refine o_nil ?_
        refine h_next (fun _ hw => HeapIs.drop hw (List.Sublist.cons _ (List.Sublist.cons _ (List.Sublist.cons_cons _ (List.Sublist.cons_cons _ (List.Sublist.cons_cons _ (List.Sublist.cons_cons _ (List.Sublist.slnil)))))))) ?_
        refine h_take (i := 6) (ls := #[true, true, true, true, true, true, true, false, false, false, true, false, false, false]) rfl (by kernel_rfl) (by kernel_rfl) (by kernel_rfl) (fun _ _ _ h => h) (p_move (v := .tuple #[.agg #[.int .i64 (((Clock.touch cc (l[i])).1).room), .int .i64 (((Clock.touch cc (l[i])).1).hand), .slice a6_5 (((Clock.touch cc (l[i])).1).frames).length c6_5], .bool ((Clock.touch cc (l[i])).2.1), .int .i64 ((Clock.touch cc (l[i])).2.2)]) rfl) rfl rfl rfl (fun _ hw => HeapIs.drop hw (List.Sublist.cons _ (List.Sublist.cons _ (List.Sublist.cons_cons _ (List.Sublist.cons_cons _ (List.Sublist.cons_cons _ (List.Sublist.cons_cons _ (List.Sublist.slnil)))))))) rfl ?_
        refine h_take (i := 7) (ls := #[true, true, true, true, true, true, true, true, false, false, true, false, false, false]) rfl (by kernel_rfl) (by kernel_rfl) (by kernel_rfl) (fun _ _ _ h => h) (p_extract (vs := [.agg #[.int .i64 (((Clock.touch cc (l[i])).1).room), .int .i64 (((Clock.touch cc (l[i])).1).hand), .slice a6_5 (((Clock.touch cc (l[i])).1).frames).length c6_5], .bool ((Clock.touch cc (l[i])).2.1), .int .i64 ((Clock.touch cc (l[i])).2.2)]) (v := .agg #[.int .i64 (((Clock.touch cc (l[i])).1).room), .int .i64 (((Clock.touch cc (l[i])).1).hand), .slice a6_5 (((Clock.touch cc (l[i])).1).frames).length c6_5]) rfl rfl) rfl rfl rfl (fun _ hw => HeapIs.drop hw (List.Sublist.cons _ (List.Sublist.cons _ (List.Sublist.cons_cons _ (List.Sublist.cons_cons _ (List.Sublist.cons_cons _ (List.Sublist.cons_cons _ (List.Sublist.slnil)))))))) rfl ?_
        refine h_take (i := 8) (ls := #[true, true, true, true, true, true, true, true, true, false, true, false, false, false]) rfl (by kernel_rfl) (by kernel_rfl) (by kernel_rfl) (fun _ _ _ h => h) (p_extract (vs := [.agg #[.int .i64 (((Clock.touch cc (l[i])).1).room), .int .i64 (((Clock.touch cc (l[i])).1).hand), .slice a6_5 (((Clock.touch cc (l[i])).1).frames).length c6_5], .bool ((Clock.touch cc (l[i])).2.1), .int .i64 ((Clock.touch cc (l[i])).2.2)]) (v := .bool ((Clock.touch cc (l[i])).2.1)) rfl rfl) rfl rfl rfl (fun _ hw => HeapIs.drop hw (List.Sublist.cons _ (List.Sublist.cons _ (List.Sublist.cons_cons _ (List.Sublist.cons_cons _ (List.Sublist.cons_cons _ (List.Sublist.cons_cons _ (List.Sublist.slnil)))))))) rfl ?_
        refine h_take (i := 9) (ls := #[true, true, true, true, true, true, true, true, true, true, true, false, false, false]) rfl (by kernel_rfl) (by kernel_rfl) (by kernel_rfl) (fun _ _ _ h => h) (p_extract (vs := [.agg #[.int .i64 (((Clock.touch cc (l[i])).1).room), .int .i64 (((Clock.touch cc (l[i])).1).hand), .slice a6_5 (((Clock.touch cc (l[i])).1).frames).length c6_5], .bool ((Clock.touch cc (l[i])).2.1), .int .i64 ((Clock.touch cc (l[i])).2.2)]) (v := .int .i64 ((Clock.touch cc (l[i])).2.2)) rfl rfl) rfl rfl rfl (fun _ hw => HeapIs.drop hw (List.Sublist.cons _ (List.Sublist.cons _ (List.Sublist.cons_cons _ (List.Sublist.cons_cons _ (List.Sublist.cons_cons _ (List.Sublist.cons_cons _ (List.Sublist.slnil)))))))) rfl ?_
        refine h_one (i := 11) (ls := #[true, true, true, true, true, true, true, true, true, true, true, true, false, false]) (by kernel_rfl) rfl rfl ?_
        refine o_storeN (i := 1) (vs := [.int .i64 (((Clock.touch cc (l[i])).1).room), .int .i64 (((Clock.touch cc (l[i])).1).hand), .slice a6_5 (((Clock.touch cc (l[i])).1).frames).length c6_5]) (cs' := [.int .i64 (((Clock.touch cc (l[i])).1).room), .int .i64 (((Clock.touch cc (l[i])).1).hand), .slice a6_5 (((Clock.touch cc (l[i])).1).frames).length c6_5]) rfl rfl rfl sz59 rfl rfl rfl rfl ?_
        refine o_nil ?_
        refine h_next (fun _ hw => HeapIs.drop hw (List.Sublist.cons _ (List.Sublist.cons _ (List.Sublist.cons_cons _ (List.Sublist.cons_cons _ (List.Sublist.cons_cons _ (List.Sublist.cons_cons _ (List.Sublist.slnil)))))))) ?_
        refine h_take (i := 12) (ls := #[true, true, true, true, true, true, true, true, true, true, true, true, true, false]) rfl (by kernel_rfl) (by kernel_rfl) (by kernel_rfl) (fun _ _ _ h => h) (p_assign (v := .bool ((Clock.touch cc (l[i])).2.1)) rfl) rfl rfl rfl (fun _ hw => HeapIs.drop hw (List.Sublist.cons _ (List.Sublist.cons _ (List.Sublist.cons_cons _ (List.Sublist.cons_cons _ (List.Sublist.cons_cons _ (List.Sublist.cons_cons _ (List.Sublist.slnil)))))))) rfl ?_
        refine h_take (i := 13) (ls := #[true, true, true, true, true, true, true, true, true, true, true, true, true, true]) rfl (by kernel_rfl) (by kernel_rfl) (by kernel_rfl) (fun _ _ _ h => h) (p_assign (v := .int .i64 ((Clock.touch cc (l[i])).2.2)) rfl) rfl rfl rfl (fun _ hw => HeapIs.drop hw (List.Sublist.cons _ (List.Sublist.cons _ (List.Sublist.cons_cons _ (List.Sublist.cons_cons _ (List.Sublist.cons_cons _ (List.Sublist.cons_cons _ (List.Sublist.slnil)))))))) rfl ?_
        refine h_done (by kernel_rfl) ?_
        refine q_kont hK7 (S6_5, a6_5, c6_5, B6_10) (Sub.cons rfl (Sub.cons rfl (Sub.cons rfl (Sub.cons rfl (Sub.cons rfl (Sub.cons rfl (Sub.cons rfl (Sub.nil _)))))))) (fun _ hw => HeapIs.pick hw [1, 0, 2, 3, 4, 5] (by decide) rfl)
    rintro ⟨S6_5, a6_5, c6_5, B6_10⟩
    show SQ _ 33 w0 _ _ [(1, .slice al l.length cl), (2, .pointer (some ⟨B1, 0, none⟩)), (4, .pointer (some ⟨B2, 0, none⟩)), (6, .int .i64 hits), (7, .int .i64 (i : Int)), (8, .pointer (some ⟨B6_10, 0, none⟩)), (9, .bool ((Clock.touch cc (l[i])).2.1))] [box B6_10 [.int .i64 (((Clock.touch cc (l[i])).1).room), .int .i64 (((Clock.touch cc (l[i])).1).hand), .slice a6_5 (((Clock.touch cc (l[i])).1).frames).length c6_5] 59, own tFrame S6_5 a6_5 c6_5 (((Clock.touch cc (l[i])).1).frames), loose tFrame (acc_0 = ac_0 ∧ ccc_0 = cc_0 ∧ cc.frames = c.frames) Scc_0 acc_0 ccc_0 cc.frames, box B2 [.int .i64 0, .int .i64 0, .slice none 0 0] 59, box B1 [.int .i64 cc.room, .int .i64 cc.hand, .slice acc_0 cc.frames.length ccc_0] 59, base w0]
    refine q_then ?_
    refine c_seq ?_
    refine c_seq ?_
    refine c_region ?_
    refine o_pure (p_move (v := .bool ((Clock.touch cc (l[i])).2.1)) rfl) rfl rfl rfl ?_
    refine o_nil ?_
    refine q_then ?_
    refine c_cond (b := ((Clock.touch cc (l[i])).2.1)) rfl (fun hc8 => ?_) (fun hc8 => ?_)
    · skip
      refine c_region ?_
      refine o_pure (p_move (v := .int .i64 hits) rfl) rfl rfl rfl ?_
      refine o_pure (p_addb (p := hits) (q := 1) rfl rfl (by omega)) rfl rfl rfl ?_
      refine o_pure (p_assign (v := .int .i64 (hits + 1)) rfl) rfl rfl rfl ?_
      refine o_nil ?_
      refine q_then ?_
      refine c_region ?_
      refine o_pure (p_load_agg (i := 0) (vs := [.int .i64 (((Clock.touch cc (l[i])).1).room), .int .i64 (((Clock.touch cc (l[i])).1).hand), .slice a6_5 (((Clock.touch cc (l[i])).1).frames).length c6_5]) rfl rfl sh59 rfl rfl) rfl rfl rfl ?_
      refine o_storeN (i := 4) (vs := [.int .i64 (((Clock.touch cc (l[i])).1).room), .int .i64 (((Clock.touch cc (l[i])).1).hand), .slice a6_5 (((Clock.touch cc (l[i])).1).frames).length c6_5]) (cs' := [.int .i64 (((Clock.touch cc (l[i])).1).room), .int .i64 (((Clock.touch cc (l[i])).1).hand), .slice a6_5 (((Clock.touch cc (l[i])).1).frames).length c6_5]) rfl rfl rfl sz59 rfl rfl rfl rfl ?_
      refine o_nil ?_
      refine q_block_normal (q_then ?_)
      refine c_region ?_
      refine o_pure (p_move (v := .int .i64 (i : Int)) rfl) rfl rfl rfl ?_
      refine o_pure (p_addb (p := (i : Int)) (q := 1) rfl rfl (by omega)) rfl rfl rfl ?_
      refine o_pure (p_assign (v := .int .i64 ((i : Int) + 1)) rfl) rfl rfl rfl ?_
      refine o_nil ?_
      refine q_heap (H' := [box B6_10 [.int .i64 (((Clock.touch cc (l[i])).1).room), .int .i64 (((Clock.touch cc (l[i])).1).hand), .slice a6_5 (((Clock.touch cc (l[i])).1).frames).length c6_5] 59, loose tFrame (a6_5 = ac_0 ∧ c6_5 = cc_0 ∧ (((Clock.touch cc (l[i])).1).frames) = c.frames) S6_5 a6_5 c6_5 (((Clock.touch cc (l[i])).1).frames), loose tFrame (acc_0 = ac_0 ∧ ccc_0 = cc_0 ∧ cc.frames = c.frames) Scc_0 acc_0 ccc_0 cc.frames, box B2 [.int .i64 0, .int .i64 0, .slice none 0 0] 59, box B1 [.int .i64 (((Clock.touch cc (l[i])).1).room), .int .i64 (((Clock.touch cc (l[i])).1).hand), .slice a6_5 (((Clock.touch cc (l[i])).1).frames).length c6_5] 59, base w0]) (fun w hw => HeapIs.toLoose (i := 1) (T := tFrame) rfl hw) ?_
      refine q_round hK4 ((hits + 1), i + 1, ((Clock.touch cc (l[i])).1), a6_5, c6_5, S6_5) ?_ ?_ ?_ ?_
      · clear hK4
        first | exact hI.hit (by omega) (by assumption) | exact hI.miss (by omega) (by assumption)
      · (try dsimp only); omega
      · exact Sub.cons rfl (Sub.cons rfl (Sub.cons rfl (Sub.cons rfl (Sub.cons rfl (Sub.nil _)))))
      · exact fun _ hw => HeapIs.pick hw [1, 3, 4, 5] (by decide) rfl
    · skip
      refine c_skip ?_
      refine q_then ?_
      refine c_region ?_
      refine o_pure (p_load_agg (i := 0) (vs := [.int .i64 (((Clock.touch cc (l[i])).1).room), .int .i64 (((Clock.touch cc (l[i])).1).hand), .slice a6_5 (((Clock.touch cc (l[i])).1).frames).length c6_5]) rfl rfl sh59 rfl rfl) rfl rfl rfl ?_
      refine o_storeN (i := 4) (vs := [.int .i64 (((Clock.touch cc (l[i])).1).room), .int .i64 (((Clock.touch cc (l[i])).1).hand), .slice a6_5 (((Clock.touch cc (l[i])).1).frames).length c6_5]) (cs' := [.int .i64 (((Clock.touch cc (l[i])).1).room), .int .i64 (((Clock.touch cc (l[i])).1).hand), .slice a6_5 (((Clock.touch cc (l[i])).1).frames).length c6_5]) rfl rfl rfl sz59 rfl rfl rfl rfl ?_
      refine o_nil ?_
      refine q_block_normal (q_then ?_)
      refine c_region ?_
      refine o_pure (p_move (v := .int .i64 (i : Int)) rfl) rfl rfl rfl ?_
      refine o_pure (p_addb (p := (i : Int)) (q := 1) rfl rfl (by omega)) rfl rfl rfl ?_
      refine o_pure (p_assign (v := .int .i64 ((i : Int) + 1)) rfl) rfl rfl rfl ?_
      refine o_nil ?_
      refine q_heap (H' := [box B6_10 [.int .i64 (((Clock.touch cc (l[i])).1).room), .int .i64 (((Clock.touch cc (l[i])).1).hand), .slice a6_5 (((Clock.touch cc (l[i])).1).frames).length c6_5] 59, loose tFrame (a6_5 = ac_0 ∧ c6_5 = cc_0 ∧ (((Clock.touch cc (l[i])).1).frames) = c.frames) S6_5 a6_5 c6_5 (((Clock.touch cc (l[i])).1).frames), loose tFrame (acc_0 = ac_0 ∧ ccc_0 = cc_0 ∧ cc.frames = c.frames) Scc_0 acc_0 ccc_0 cc.frames, box B2 [.int .i64 0, .int .i64 0, .slice none 0 0] 59, box B1 [.int .i64 (((Clock.touch cc (l[i])).1).room), .int .i64 (((Clock.touch cc (l[i])).1).hand), .slice a6_5 (((Clock.touch cc (l[i])).1).frames).length c6_5] 59, base w0]) (fun w hw => HeapIs.toLoose (i := 1) (T := tFrame) rfl hw) ?_
      refine q_round hK4 (hits, i + 1, ((Clock.touch cc (l[i])).1), a6_5, c6_5, S6_5) ?_ ?_ ?_ ?_
      · clear hK4
        first | exact hI.hit (by omega) (by assumption) | exact hI.miss (by omega) (by assumption)
      · (try dsimp only); omega
      · exact Sub.cons rfl (Sub.cons rfl (Sub.cons rfl (Sub.cons rfl (Sub.cons rfl (Sub.nil _)))))
      · exact fun _ hw => HeapIs.pick hw [1, 3, 4, 5] (by decide) rfl
  · simp only [decide_eq_false_iff_not, Int.not_lt] at hc5
    refine c_exit ?_
    refine q_then_exit (q_then_exit (q_block_exit (q_then ?_)))
    refine c_seq ?_
    refine c_region ?_
    refine o_pure (p_load_agg (i := 2) (vs := [.int .i64 cc.room, .int .i64 cc.hand, .slice acc_0 cc.frames.length ccc_0]) rfl rfl sh59 rfl rfl) rfl rfl rfl ?_
    refine o_pure (p_move (v := .int .i64 hits) rfl) rfl rfl rfl ?_
    refine o_storeN (i := 1) (vs := [.int .i64 cc.room, .int .i64 cc.hand, .slice acc_0 cc.frames.length ccc_0]) (cs' := [.int .i64 cc.room, .int .i64 cc.hand, .slice acc_0 cc.frames.length ccc_0]) rfl rfl rfl sz59 rfl rfl rfl rfl ?_
    refine o_pure (p_assign (v := .int .i64 hits) rfl) rfl rfl rfl ?_
    refine o_nil ?_
    refine q_then ?_
    refine c_ret ?_
    have hd := hI.done (by omega)
    have hr0 : (cc.room : Int) = ((Clock.runGo c 0 l).1).room := by
      simp only [hd]
    have hr1 : (cc.hand : Int) = ((Clock.runGo c 0 l).1).hand := by
      simp only [hd]
    have hr2 : (cc.frames : List DFrame) = ((Clock.runGo c 0 l).1).frames := by
      simp only [hd]
    have hr3 : (hits : Int) = ((Clock.runGo c 0 l).2) := by
      simp only [hd]
    refine q_endM (p := (acc_0, ccc_0)) Scc_0 (rt2 rfl (r_cell (i := 1) rfl rfl sh59 rfl) (r_tmp rfl)) (i := 3) rfl ?_ ?_ ?_
    · exact (by have hcc := congr (congr (congr (congrArg (fun (y0 : Int) (y1 : Int) (y2 : List DFrame) (y3 : Int) => (.tuple #[.agg #[.int .i64 y0, .int .i64 y1, .slice acc_0 y2.length ccc_0], .int .i64 y3] : Value)) hr0) hr1) hr2) hr3; exact hcc)
    · exact fun w hw => hw.above (i := 3) (j := 0) (by decide) rfl rfl
    · intro w hw; exact Eq.mp (congrArg (fun y => SlR tFrame _ w acc_0 ccc_0 y ∨ (acc_0 = ac_0 ∧ ccc_0 = cc_0 ∧ y = c.frames)) hr2) (Or.imp (fun h => SlR.mono (fun b hb => by simp [hb]) h) id (hw.at (i := 0) rfl).here)

set_option maxHeartbeats 8000000 in
set_option maxRecDepth 100000 in
theorem sameClock_ok (a : DClock) (aa_0 : Option Addr) (ca_0 : Nat) (b : DClock) (ab_0 : Option Addr) (cb_0 : Nat) : Fn0 Try.prog 46 [.agg #[.int .i64 a.room, .int .i64 a.hand, .slice aa_0 a.frames.length ca_0], .agg #[.int .i64 b.room, .int .i64 b.hand, .slice ab_0 b.frames.length cb_0]] (fun w => Rd tFrame w aa_0 ca_0 a.frames ∧ Rd tFrame w ab_0 cb_0 b.frames) (.bool (decide (a = b))) := by
  refine fn0 (nt := 45) (F0 := [(0, .agg #[.int .i64 a.room, .int .i64 a.hand, .slice aa_0 a.frames.length ca_0]), (1, .agg #[.int .i64 b.room, .int .i64 b.hand, .slice ab_0 b.frames.length cb_0])]) Try.func46 rfl Try.ntmps46 rfl rfl (fun w0 hpre => ?_)
  obtain ⟨ha_0, hb_0⟩ := hpre
  have hlha_0 := ha_0.2.1
  have hlhb_0 := hb_0.2.1
  refine c_seq ?_
  refine c_region ?_
  refine o_box (v := .agg #[.int .i64 a.room, .int .i64 a.hand, .slice aa_0 a.frames.length ca_0]) rfl rfl (fun B1 => ?_)
  refine o_box (v := .agg #[.int .i64 b.room, .int .i64 b.hand, .slice ab_0 b.frames.length cb_0]) rfl rfl (fun B2 => ?_)
  refine o_pure (p_assign (v := .bool false) rfl) rfl rfl rfl ?_
  refine o_nil ?_
  refine q_then ?_
  refine c_seq ?_
  refine c_seq ?_
  refine c_region ?_
  refine o_pure (p_fieldAddr (B := B1) (j := 0) (j' := 0) rfl fo59_0 rfl) rfl rfl rfl ?_
  refine o_pure (p_load (i := 1) (v := .int .i64 a.room) rfl rfl sh3 rfl) rfl rfl rfl ?_
  refine o_pure (p_fieldAddr (B := B2) (j := 0) (j' := 0) rfl fo59_0 rfl) rfl rfl rfl ?_
  refine o_pure (p_load (i := 0) (v := .int .i64 b.room) rfl rfl sh3 rfl) rfl rfl rfl ?_
  refine o_pure (p_ne (p := a.room) (q := b.room) rfl rfl) rfl rfl rfl ?_
  refine o_pure (p_move (v := .bool (a.room != b.room)) rfl) rfl rfl rfl ?_
  refine o_or (p := 17) 6 (a.hand != b.hand) ?_ ?_ ?_
  · intro hb3 hk
    simp only [bne_eq_false_iff_eq] at hb3
    refine o_unguard 11 rfl rfl ?_
    refine o_pure (p_fieldAddr (B := B1) (j := 0) (j' := 1) rfl fo59_1 rfl) rfl rfl rfl ?_
    refine o_unguard 11 rfl rfl ?_
    refine o_pure (p_load (i := 1) (v := .int .i64 a.hand) rfl rfl sh3 rfl) rfl rfl rfl ?_
    refine o_unguard 11 rfl rfl ?_
    refine o_pure (p_fieldAddr (B := B2) (j := 0) (j' := 1) rfl fo59_1 rfl) rfl rfl rfl ?_
    refine o_unguard 11 rfl rfl ?_
    refine o_pure (p_load (i := 0) (v := .int .i64 b.hand) rfl rfl sh3 rfl) rfl rfl rfl ?_
    refine o_unguard 11 rfl rfl ?_
    refine o_pure (p_ne (p := a.hand) (q := b.hand) rfl rfl) rfl rfl rfl ?_
    refine o_pure (p_pick_false (v := .bool (a.hand != b.hand)) rfl rfl) rfl rfl rfl ?_
    exact o_sub (Sub.cons rfl (Sub.skip rfl (Sub.skip rfl (Sub.skip rfl (Sub.skip rfl (Sub.skip rfl (Sub.skip rfl (Sub.skip rfl (Sub.refl _))))))))) hk
  · intro hb3 hk
    refine o_guard_no rfl 11 rfl rfl rfl rfl rfl ?_
    refine o_guard_no rfl 11 rfl rfl rfl rfl rfl ?_
    refine o_guard_no rfl 11 rfl rfl rfl rfl rfl ?_
    refine o_guard_no rfl 11 rfl rfl rfl rfl rfl ?_
    refine o_guard_no rfl 11 rfl rfl rfl rfl rfl ?_
    refine o_pure (p_pick_true (u := .bool true) rfl rfl) rfl rfl rfl ?_
    exact o_sub (Sub.cons rfl (Sub.skip rfl (Sub.skip rfl (Sub.skip rfl (Sub.skip rfl (Sub.skip rfl (Sub.skip rfl (Sub.skip rfl (Sub.refl _))))))))) hk
  refine o_pure (p_move (v := .bool ((a.room != b.room) || (a.hand != b.hand))) rfl) rfl rfl rfl ?_
  refine o_or (p := 26) 8 ((a.frames.length : Int) != (b.frames.length : Int)) ?_ ?_ ?_
  · intro hb4 hk
    simp only [Bool.or_eq_false_iff, bne_eq_false_iff_eq] at hb4
    refine o_unguard 18 rfl rfl ?_
    refine o_pure (p_fieldAddr (B := B1) (j := 0) (j' := 2) rfl fo59_2 rfl) rfl rfl rfl ?_
    refine o_unguard 18 rfl rfl ?_
    refine o_pure (p_load (i := 1) (v := .slice aa_0 a.frames.length ca_0) rfl rfl sh57 rfl) rfl rfl rfl ?_
    refine o_unguard 18 rfl rfl ?_
    refine o_pure (p_len_slice (len := a.frames.length) rfl rfl Try.underlying57) rfl rfl rfl ?_
    refine o_unguard 18 rfl rfl ?_
    refine o_pure (p_fieldAddr (B := B2) (j := 0) (j' := 2) rfl fo59_2 rfl) rfl rfl rfl ?_
    refine o_unguard 18 rfl rfl ?_
    refine o_pure (p_load (i := 0) (v := .slice ab_0 b.frames.length cb_0) rfl rfl sh57 rfl) rfl rfl rfl ?_
    refine o_unguard 18 rfl rfl ?_
    refine o_pure (p_len_slice (len := b.frames.length) rfl rfl Try.underlying57) rfl rfl rfl ?_
    refine o_unguard 18 rfl rfl ?_
    refine o_pure (p_ne (p := (a.frames.length : Int)) (q := (b.frames.length : Int)) rfl rfl) rfl rfl rfl ?_
    refine o_pure (p_pick_false (v := .bool ((a.frames.length : Int) != (b.frames.length : Int))) rfl rfl) rfl rfl rfl ?_
    exact o_sub (Sub.cons rfl (Sub.skip rfl (Sub.skip rfl (Sub.skip rfl (Sub.skip rfl (Sub.skip rfl (Sub.skip rfl (Sub.skip rfl (Sub.skip rfl (Sub.skip rfl (Sub.refl _))))))))))) hk
  · intro hb4 hk
    refine o_guard_no rfl 18 rfl rfl rfl rfl rfl ?_
    refine o_guard_no rfl 18 rfl rfl rfl rfl rfl ?_
    refine o_guard_no rfl 18 rfl rfl rfl rfl rfl ?_
    refine o_guard_no rfl 18 rfl rfl rfl rfl rfl ?_
    refine o_guard_no rfl 18 rfl rfl rfl rfl rfl ?_
    refine o_guard_no rfl 18 rfl rfl rfl rfl rfl ?_
    refine o_guard_no rfl 18 rfl rfl rfl rfl rfl ?_
    refine o_pure (p_pick_true (u := .bool true) rfl rfl) rfl rfl rfl ?_
    exact o_sub (Sub.cons rfl (Sub.skip rfl (Sub.skip rfl (Sub.skip rfl (Sub.skip rfl (Sub.skip rfl (Sub.skip rfl (Sub.skip rfl (Sub.skip rfl (Sub.skip rfl (Sub.refl _))))))))))) hk
  refine o_nil ?_
  refine q_then ?_
  refine c_cond (b := (((a.room != b.room) || (a.hand != b.hand)) || ((a.frames.length : Int) != (b.frames.length : Int)))) rfl (fun hc5 => ?_) (fun hc5 => ?_)
  · simp only [Bool.or_eq_true, bne_iff_ne, ne_eq] at hc5
    refine c_seq ?_
    refine c_region ?_
    refine o_pure (p_assign (v := .bool false) rfl) rfl rfl rfl ?_
    refine o_nil ?_
    refine q_then ?_
    refine c_ret ?_
    refine q_then_ret ?_
    have hr0 : (false : Bool) = (decide (a = b)) := by
      first | exact Clock.same_no (by assumption) | exact Clock.same_no2 (by assumption) | exact Clock.same_yes (by omega) (by omega) (by omega) (fun j h1 h2 => hI2 j h1 h2 (by omega))
    refine q_end0 (v := .bool false) (rt1 rfl (r_tmp rfl)) (i := 2) rfl ?_
    exact (by have hcc := congrArg (fun (y0 : Bool) => (.bool y0 : Value)) hr0; exact hcc)
  · simp only [Bool.or_eq_false_iff, bne_eq_false_iff_eq] at hc5
    refine c_skip ?_
    refine q_then ?_
    refine c_seq ?_
    refine c_seq ?_
    refine c_region ?_
    refine o_pure (p_assign (v := .int .i64 0) rfl) rfl rfl rfl ?_
    refine o_nil ?_
    refine q_then ?_
    refine c_block ?_
    refine c_loop (St := Nat)
      (fun i => [(2, .pointer (some ⟨B1, 0, none⟩)), (3, .pointer (some ⟨B2, 0, none⟩)), (5, .int .i64 (i : Int))])
      (fun i => [box B2 [.int .i64 b.room, .int .i64 b.hand, .slice ab_0 b.frames.length cb_0] 59, box B1 [.int .i64 a.room, .int .i64 a.hand, .slice aa_0 a.frames.length ca_0] 59, base w0])
      (fun i => i ≤ a.frames.length ∧ ∀ j (h1 : j < a.frames.length) (h2 : j < b.frames.length), j < i → a.frames[j] = b.frames[j])
      (fun i => a.frames.length - i)
      0 ?_ (Sub.cons rfl (Sub.cons rfl (Sub.cons rfl (Sub.nil _)))) (fun _ hw => hw) ?_
    · exact ⟨Nat.zero_le _, fun j _ _ h => absurd h (by omega)⟩
    rintro i hI K hK6
    obtain ⟨hI1, hI2⟩ := hI
    show SC _ _ Try.prog 45 w0 _ _ [(2, .pointer (some ⟨B1, 0, none⟩)), (3, .pointer (some ⟨B2, 0, none⟩)), (5, .int .i64 (i : Int))] [box B2 [.int .i64 b.room, .int .i64 b.hand, .slice ab_0 b.frames.length cb_0] 59, box B1 [.int .i64 a.room, .int .i64 a.hand, .slice aa_0 a.frames.length ca_0] 59, base w0]
    refine c_seq ?_
    refine c_seq ?_
    refine c_region ?_
    refine o_pure (p_move (v := .int .i64 (i : Int)) rfl) rfl rfl rfl ?_
    refine o_pure (p_fieldAddr (B := B1) (j := 0) (j' := 2) rfl fo59_2 rfl) rfl rfl rfl ?_
    refine o_pure (p_load (i := 1) (v := .slice aa_0 a.frames.length ca_0) rfl rfl sh57 rfl) rfl rfl rfl ?_
    refine o_pure (p_len_slice (len := a.frames.length) rfl rfl Try.underlying57) rfl rfl rfl ?_
    refine o_pure (p_lt (p := (i : Int)) (q := (a.frames.length : Int)) rfl rfl) rfl rfl rfl ?_
    refine o_nil ?_
    refine q_then ?_
    refine c_cond (b := decide ((i : Int) < (a.frames.length : Int))) rfl (fun hc7 => ?_) (fun hc7 => ?_)
    · simp only [decide_eq_true_eq] at hc7
      refine c_skip ?_
      refine q_then ?_
      refine c_seq ?_
      refine c_block ?_
      refine c_seq ?_
      refine c_draw hmix (by kernel_rfl) ?_
      refine w_pure (p_fieldAddr (B := B1) (j := 0) (j' := 2) rfl fo59_2 rfl) rfl rfl rfl ?_
      refine w_pure (p_load (i := 1) (v := .slice aa_0 a.frames.length ca_0) rfl rfl sh57 rfl) rfl rfl rfl ?_
      refine w_pure (p_move (v := .int .i64 (i : Int)) rfl) rfl rfl rfl ?_
      refine w_pure (p_indexAddr (L := a.frames) (T := tFrame) (i := (i : Int)) rfl rfl (rd_base (i := 2) rfl ha_0) Try.underlying57 sz73 (by omega) (by omega)) rfl rfl rfl ?_
      refine w_pure (p_loadEn (i := i) (T := tFrame) (L := a.frames) (vs := [.int .i64 ((a.frames[i]).key), .bool ((a.frames[i]).used)]) rfl (rd_base (i := 2) rfl ha_0) (by first | assumption | omega) sh73 rfl) rfl rfl rfl ?_
      refine w_pure (p_fieldAddr (B := B2) (j := 0) (j' := 2) rfl fo59_2 rfl) rfl rfl rfl ?_
      refine w_pure (p_load (i := 0) (v := .slice ab_0 b.frames.length cb_0) rfl rfl sh57 rfl) rfl rfl rfl ?_
      refine w_pure (p_move (v := .int .i64 (i : Int)) rfl) rfl rfl rfl ?_
      refine w_pure (p_indexAddr (L := b.frames) (T := tFrame) (i := (i : Int)) rfl rfl (rd_base (i := 2) rfl hb_0) Try.underlying57 sz73 (by omega) (by omega)) rfl rfl rfl ?_
      refine w_pure (p_loadEn (i := i) (T := tFrame) (L := b.frames) (vs := [.int .i64 ((b.frames[i]).key), .bool ((b.frames[i]).used)]) rfl (rd_base (i := 2) rfl hb_0) (by first | assumption | omega) sh73 rfl) rfl rfl rfl ?_
      refine w_pure (p_neStruct (xs := [.int .i64 ((a.frames[i]).key), .bool ((a.frames[i]).used)]) (ys := [.int .i64 ((b.frames[i]).key), .bool ((b.frames[i]).used)]) (r := (((a.frames[i]).key == (b.frames[i]).key) && ((a.frames[i]).used == (b.frames[i]).used))) rfl rfl eqS73) rfl rfl rfl ?_
      refine w_nil ?_
      refine q_then ?_
      refine c_cond (b := (!(((a.frames[i]).key == (b.frames[i]).key) && ((a.frames[i]).used == (b.frames[i]).used)))) rfl (fun hc8 => ?_) (fun hc8 => ?_)
      · simp only [Bool.not_eq_true', Bool.and_eq_false_iff, beq_eq_false_iff_ne, ne_eq] at hc8
        refine c_seq ?_
        refine c_region ?_
        refine o_pure (p_assign (v := .bool false) rfl) rfl rfl rfl ?_
        refine o_nil ?_
        refine q_then ?_
        refine c_ret ?_
        refine q_block_ret (q_then_ret (q_then_ret (q_block_ret (q_then_ret ?_))))
        have hr0 : (false : Bool) = (decide (a = b)) := by
          first | exact Clock.same_no (by assumption) | exact Clock.same_no2 (by assumption) | exact Clock.same_yes (by omega) (by omega) (by omega) (fun j h1 h2 => hI2 j h1 h2 (by omega))
        refine q_end0 (v := .bool false) (rt1 rfl (r_tmp rfl)) (i := 2) rfl ?_
        exact (by have hcc := congrArg (fun (y0 : Bool) => (.bool y0 : Value)) hr0; exact hcc)
      · simp only [Bool.not_eq_false', Bool.and_eq_true, beq_iff_eq] at hc8
        refine c_skip ?_
        refine q_block_normal (q_then ?_)
        refine c_region ?_
        refine o_pure (p_move (v := .int .i64 (i : Int)) rfl) rfl rfl rfl ?_
        refine o_pure (p_addb (p := (i : Int)) (q := 1) rfl rfl (by omega)) rfl rfl rfl ?_
        refine o_pure (p_assign (v := .int .i64 ((i : Int) + 1)) rfl) rfl rfl rfl ?_
        refine o_nil ?_
        refine q_round hK6 (i + 1) ?_ ?_ ?_ ?_
        · clear hK6
          refine ⟨by omega, fun j h1 h2 h3 => ?_⟩
          by_cases e : j = i
          · subst e; apply Clock.frame_eq <;> simp_all
          · exact hI2 j h1 h2 (by omega)
        · (try dsimp only); omega
        · exact Sub.cons rfl (Sub.cons rfl (Sub.cons rfl (Sub.nil _)))
        · exact fun _ hw => HeapIs.pick hw [0, 1, 2] (by decide) rfl
    · simp only [decide_eq_false_iff_not, Int.not_lt] at hc7
      refine c_exit ?_
      refine q_then_exit (q_then_exit (q_block_exit (q_then ?_)))
      refine c_seq ?_
      refine c_region ?_
      refine o_pure (p_assign (v := .bool true) rfl) rfl rfl rfl ?_
      refine o_nil ?_
      refine q_then ?_
      refine c_ret ?_
      have hr0 : (true : Bool) = (decide (a = b)) := by
        first | exact Clock.same_no (by assumption) | exact Clock.same_no2 (by assumption) | exact Clock.same_yes (by omega) (by omega) (by omega) (fun j h1 h2 => hI2 j h1 h2 (by omega))
      refine q_end0 (v := .bool true) (rt1 rfl (r_tmp rfl)) (i := 2) rfl ?_
      exact (by have hcc := congrArg (fun (y0 : Bool) => (.bool y0 : Value)) hr0; exact hcc)
end Go.Proofs.Ythbfdhphnofacab
