/- The walks, printed by a program from the translation and a specification. -/
import Derived.Test.YthbfdhphnofacabCkF
import Derived.Test.YthbfdhphnofacabCkLaw
import Derived.Test.YthbfdhphnofacabCkW6
import Derived.Test.YthbfdhphnofacabCkLaw3
namespace Go.Proofs.Ythbfdhphnofacab
open Go.Sx Go.RowKit
set_option maxHeartbeats 8000000 in
set_option maxRecDepth 100000 in
theorem clockFifo_ok (room : Int) (l : List Int) (al : Option Addr) (cl : Nat) : Fn0 Try.prog 12 [.int .i64 room, .slice al l.length cl] (fun w => Rd tInt w al cl l) (.bool true) := by
  refine fn0 (nt := 87) (F0 := [(0, .int .i64 room), (1, .slice al l.length cl)]) Try.func12 rfl Try.ntmps12 rfl rfl (fun w0 hpre => ?_)
  have hl := hpre
  have hlhl := hl.2.1
  refine c_seq ?_
  refine c_region ?_
  refine o_pure (p_assign (v := .bool false) rfl) rfl rfl rfl ?_
  refine o_nil ?_
  refine q_then ?_
  refine c_seq ?_
  refine c_region ?_
  refine o_pure (p_move (v := .int .i64 room) rfl) rfl rfl rfl ?_
  refine o_pure (p_build (cells := [.int .i64 room, .int .i64 0, .slice none 0 0]) fp59 ze59 rfl rfl) rfl rfl rfl ?_
  refine o_pure (p_move (v := .slice al l.length cl) rfl) rfl rfl rfl ?_
  refine o_callM rfl (run_ok (⟨room, 0, []⟩ : DClock) none 0 l al cl) hf38 (fun w hw => ⟨rd_nil w hw, (rd_base (i := 0) rfl hl) w hw⟩) rfl (fun _ _ _ _ ha hA => SlO.agree ha hA) ?_
  rintro ⟨a3, c4⟩ S1
  refine o_pure (p_move (v := .tuple #[.agg #[.int .i64 (((Clock.run (⟨room, 0, []⟩ : DClock) l).1).room), .int .i64 (((Clock.run (⟨room, 0, []⟩ : DClock) l).1).hand), .slice a3 (((Clock.run (⟨room, 0, []⟩ : DClock) l).1).frames).length c4], .int .i64 ((Clock.run (⟨room, 0, []⟩ : DClock) l).2), .int .i64 (Clock.runErr (⟨room, 0, []⟩ : DClock) l)]) rfl) rfl rfl rfl ?_
  refine o_pure (p_extract (vs := [.agg #[.int .i64 (((Clock.run (⟨room, 0, []⟩ : DClock) l).1).room), .int .i64 (((Clock.run (⟨room, 0, []⟩ : DClock) l).1).hand), .slice a3 (((Clock.run (⟨room, 0, []⟩ : DClock) l).1).frames).length c4], .int .i64 ((Clock.run (⟨room, 0, []⟩ : DClock) l).2), .int .i64 (Clock.runErr (⟨room, 0, []⟩ : DClock) l)]) (v := .agg #[.int .i64 (((Clock.run (⟨room, 0, []⟩ : DClock) l).1).room), .int .i64 (((Clock.run (⟨room, 0, []⟩ : DClock) l).1).hand), .slice a3 (((Clock.run (⟨room, 0, []⟩ : DClock) l).1).frames).length c4]) rfl rfl) rfl rfl rfl ?_
  refine o_pure (p_extract (vs := [.agg #[.int .i64 (((Clock.run (⟨room, 0, []⟩ : DClock) l).1).room), .int .i64 (((Clock.run (⟨room, 0, []⟩ : DClock) l).1).hand), .slice a3 (((Clock.run (⟨room, 0, []⟩ : DClock) l).1).frames).length c4], .int .i64 ((Clock.run (⟨room, 0, []⟩ : DClock) l).2), .int .i64 (Clock.runErr (⟨room, 0, []⟩ : DClock) l)]) (v := .int .i64 ((Clock.run (⟨room, 0, []⟩ : DClock) l).2)) rfl rfl) rfl rfl rfl ?_
  refine o_pure (p_extract (vs := [.agg #[.int .i64 (((Clock.run (⟨room, 0, []⟩ : DClock) l).1).room), .int .i64 (((Clock.run (⟨room, 0, []⟩ : DClock) l).1).hand), .slice a3 (((Clock.run (⟨room, 0, []⟩ : DClock) l).1).frames).length c4], .int .i64 ((Clock.run (⟨room, 0, []⟩ : DClock) l).2), .int .i64 (Clock.runErr (⟨room, 0, []⟩ : DClock) l)]) (v := .int .i64 (Clock.runErr (⟨room, 0, []⟩ : DClock) l)) rfl rfl) rfl rfl rfl ?_
  refine o_alloc ze59 rfl (fun B5 => ?_)
  refine o_storeN (i := 0) (vs := [.int .i64 (((Clock.run (⟨room, 0, []⟩ : DClock) l).1).room), .int .i64 (((Clock.run (⟨room, 0, []⟩ : DClock) l).1).hand), .slice a3 (((Clock.run (⟨room, 0, []⟩ : DClock) l).1).frames).length c4]) (cs' := [.int .i64 (((Clock.run (⟨room, 0, []⟩ : DClock) l).1).room), .int .i64 (((Clock.run (⟨room, 0, []⟩ : DClock) l).1).hand), .slice a3 (((Clock.run (⟨room, 0, []⟩ : DClock) l).1).frames).length c4]) rfl rfl rfl sz59 rfl rfl rfl rfl ?_
  refine o_pure (p_assign (v := .int .i64 ((Clock.run (⟨room, 0, []⟩ : DClock) l).2)) rfl) rfl rfl rfl ?_
  refine o_pure (p_assign (v := .int .i64 (Clock.runErr (⟨room, 0, []⟩ : DClock) l)) rfl) rfl rfl rfl ?_
  refine o_nil ?_
  refine q_then ?_
  refine c_seq ?_
  refine c_seq ?_
  refine c_region ?_
  refine o_call0 (v := .bool true) rfl (clockBegun_ok ) hf44 (fun _ _ => trivial) rfl ?_
  refine o_pure (p_not (b := true) rfl) rfl rfl rfl ?_
  refine o_nil ?_
  refine q_then ?_
  refine c_false rfl ?_
  refine c_skip ?_
  refine q_then ?_
  refine c_seq ?_
  refine c_seq ?_
  refine c_region ?_
  refine o_pure (p_move (v := .int .i64 (Clock.runErr (⟨room, 0, []⟩ : DClock) l)) rfl) rfl rfl rfl ?_
  refine o_pure (p_ne (p := (Clock.runErr (⟨room, 0, []⟩ : DClock) l)) (q := 0) rfl rfl) rfl rfl rfl ?_
  refine o_pure (p_move (v := .bool ((Clock.runErr (⟨room, 0, []⟩ : DClock) l) != 0)) rfl) rfl rfl rfl ?_
  refine o_or (p := 28) 3 (decide (0 < ((Clock.run (⟨room, 0, []⟩ : DClock) l).2))) ?_ ?_ ?_
  · intro hb6 hk
    simp only [bne_eq_false_iff_eq] at hb6
    refine o_unguard 25 rfl rfl ?_
    refine o_pure (p_move (v := .int .i64 ((Clock.run (⟨room, 0, []⟩ : DClock) l).2)) rfl) rfl rfl rfl ?_
    refine o_unguard 25 rfl rfl ?_
    refine o_pure (p_gt (p := ((Clock.run (⟨room, 0, []⟩ : DClock) l).2)) (q := 0) rfl rfl) rfl rfl rfl ?_
    refine o_pure (p_pick_false (v := .bool (decide (0 < ((Clock.run (⟨room, 0, []⟩ : DClock) l).2)))) rfl rfl) rfl rfl rfl ?_
    exact o_sub (Sub.cons rfl (Sub.skip rfl (Sub.skip rfl (Sub.skip rfl (Sub.skip rfl (Sub.refl _)))))) hk
  · intro hb6 hk
    refine o_guard_no rfl 25 rfl rfl rfl rfl rfl ?_
    refine o_guard_no rfl 25 rfl rfl rfl rfl rfl ?_
    refine o_pure (p_pick_true (u := .bool true) rfl rfl) rfl rfl rfl ?_
    exact o_sub (Sub.cons rfl (Sub.skip rfl (Sub.skip rfl (Sub.skip rfl (Sub.skip rfl (Sub.refl _)))))) hk
  refine o_nil ?_
  refine q_then ?_
  refine c_cond (b := (((Clock.runErr (⟨room, 0, []⟩ : DClock) l) != 0) || decide (0 < ((Clock.run (⟨room, 0, []⟩ : DClock) l).2)))) rfl (fun hc7 => ?_) (fun hc7 => ?_)
  · simp only [Bool.or_eq_true, bne_iff_ne, ne_eq, decide_eq_true_eq] at hc7
    refine c_seq ?_
    refine c_region ?_
    refine o_pure (p_assign (v := .bool true) rfl) rfl rfl rfl ?_
    refine o_nil ?_
    refine q_then ?_
    refine c_ret ?_
    refine q_then_ret ?_
    refine q_end0 (v := .bool true) (rt1 rfl (r_tmp rfl)) (i := 2) rfl ?_
    exact rfl
  · simp only [Bool.or_eq_false_iff, bne_eq_false_iff_eq, decide_eq_false_iff_not, Int.not_lt] at hc7
    have hfe := hc7
    have hrm := (Clock.ok_of (Clock.run_err hc7.1).1).room
    simp only at hrm
    have hfl := Clock.run_len hc7.1
    refine c_skip ?_
    refine q_then ?_
    refine c_seq ?_
    refine c_seq ?_
    refine c_region ?_
    refine o_pure (p_assign (v := .int .i64 0) rfl) rfl rfl rfl ?_
    refine o_nil ?_
    refine q_then ?_
    refine c_block ?_
    refine c_loop (St := Nat)
      (fun i => [(0, .int .i64 room), (1, .slice al l.length cl), (5, .pointer (some ⟨B5, 0, none⟩)), (8, .int .i64 (i : Int))])
      (fun i => [box B5 [.int .i64 (((Clock.run (⟨room, 0, []⟩ : DClock) l).1).room), .int .i64 (((Clock.run (⟨room, 0, []⟩ : DClock) l).1).hand), .slice a3 (((Clock.run (⟨room, 0, []⟩ : DClock) l).1).frames).length c4] 59, own tFrame S1 a3 c4 (((Clock.run (⟨room, 0, []⟩ : DClock) l).1).frames), base w0])
      (fun i => i ≤ l.length)
      (fun i => l.length - i)
      0 ?_ (Sub.cons rfl (Sub.cons rfl (Sub.cons rfl (Sub.cons rfl (Sub.nil _))))) (fun _ hw => hw) ?_
    · exact Nat.zero_le _
    rintro i hI K hK8
    show SC _ _ Try.prog 87 w0 _ _ [(0, .int .i64 room), (1, .slice al l.length cl), (5, .pointer (some ⟨B5, 0, none⟩)), (8, .int .i64 (i : Int))] [box B5 [.int .i64 (((Clock.run (⟨room, 0, []⟩ : DClock) l).1).room), .int .i64 (((Clock.run (⟨room, 0, []⟩ : DClock) l).1).hand), .slice a3 (((Clock.run (⟨room, 0, []⟩ : DClock) l).1).frames).length c4] 59, own tFrame S1 a3 c4 (((Clock.run (⟨room, 0, []⟩ : DClock) l).1).frames), base w0]
    refine c_seq ?_
    refine c_seq ?_
    refine c_region ?_
    refine o_pure (p_move (v := .int .i64 (i : Int)) rfl) rfl rfl rfl ?_
    refine o_pure (p_move (v := .slice al l.length cl) rfl) rfl rfl rfl ?_
    refine o_pure (p_len_slice (len := l.length) rfl rfl Try.underlying22) rfl rfl rfl ?_
    refine o_pure (p_lt (p := (i : Int)) (q := (l.length : Int)) rfl rfl) rfl rfl rfl ?_
    refine o_nil ?_
    refine q_then ?_
    refine c_cond (b := decide ((i : Int) < (l.length : Int))) rfl (fun hc9 => ?_) (fun hc9 => ?_)
    · simp only [decide_eq_true_eq] at hc9
      refine c_skip ?_
      refine q_then ?_
      refine c_seq ?_
      refine c_block ?_
      refine c_seq ?_
      refine c_region ?_
      refine o_pure (p_assign (v := .bool false) rfl) rfl rfl rfl ?_
      refine o_nil ?_
      refine q_then ?_
      refine c_seq ?_
      refine c_seq ?_
      refine c_region ?_
      refine o_pure (p_assign (v := .int .i64 0) rfl) rfl rfl rfl ?_
      refine o_nil ?_
      refine q_then ?_
      refine c_block ?_
      refine c_loop (St := Bool × Nat)
        (fun ⟨in_, k⟩ => [(0, .int .i64 room), (1, .slice al l.length cl), (5, .pointer (some ⟨B5, 0, none⟩)), (8, .int .i64 (i : Int)), (9, .bool in_), (10, .int .i64 (k : Int))])
        (fun ⟨in_, k⟩ => [box B5 [.int .i64 (((Clock.run (⟨room, 0, []⟩ : DClock) l).1).room), .int .i64 (((Clock.run (⟨room, 0, []⟩ : DClock) l).1).hand), .slice a3 (((Clock.run (⟨room, 0, []⟩ : DClock) l).1).frames).length c4] 59, own tFrame S1 a3 c4 (((Clock.run (⟨room, 0, []⟩ : DClock) l).1).frames), base w0])
        (fun ⟨in_, k⟩ => Clock.AInv (Clock.run ⟨room, 0, []⟩ l).1.frames l[i] in_ k)
        (fun ⟨in_, k⟩ => (Clock.run ⟨room, 0, []⟩ l).1.frames.length - k)
        (false, 0) ?_ (Sub.cons rfl (Sub.cons rfl (Sub.cons rfl (Sub.cons rfl (Sub.cons rfl (Sub.cons rfl (Sub.nil _))))))) (fun _ hw => hw) ?_
      · exact Clock.AInv.start _ _
      rintro ⟨in_, k⟩ hI K hK10
      show SC _ _ Try.prog 87 w0 _ _ [(0, .int .i64 room), (1, .slice al l.length cl), (5, .pointer (some ⟨B5, 0, none⟩)), (8, .int .i64 (i : Int)), (9, .bool in_), (10, .int .i64 (k : Int))] [box B5 [.int .i64 (((Clock.run (⟨room, 0, []⟩ : DClock) l).1).room), .int .i64 (((Clock.run (⟨room, 0, []⟩ : DClock) l).1).hand), .slice a3 (((Clock.run (⟨room, 0, []⟩ : DClock) l).1).frames).length c4] 59, own tFrame S1 a3 c4 (((Clock.run (⟨room, 0, []⟩ : DClock) l).1).frames), base w0]
      refine c_seq ?_
      refine c_seq ?_
      refine c_region ?_
      refine o_pure (p_move (v := .int .i64 (k : Int)) rfl) rfl rfl rfl ?_
      refine o_pure (p_fieldAddr (B := B5) (j := 0) (j' := 2) rfl fo59_2 rfl) rfl rfl rfl ?_
      refine o_pure (p_load (i := 0) (v := .slice a3 (((Clock.run (⟨room, 0, []⟩ : DClock) l).1).frames).length c4) rfl rfl sh57 rfl) rfl rfl rfl ?_
      refine o_pure (p_len_slice (len := (((Clock.run (⟨room, 0, []⟩ : DClock) l).1).frames).length) rfl rfl Try.underlying57) rfl rfl rfl ?_
      refine o_pure (p_lt (p := (k : Int)) (q := ((((Clock.run (⟨room, 0, []⟩ : DClock) l).1).frames).length : Int)) rfl rfl) rfl rfl rfl ?_
      refine o_nil ?_
      refine q_then ?_
      refine c_cond (b := decide ((k : Int) < ((((Clock.run (⟨room, 0, []⟩ : DClock) l).1).frames).length : Int))) rfl (fun hc11 => ?_) (fun hc11 => ?_)
      · simp only [decide_eq_true_eq] at hc11
        refine c_skip ?_
        refine q_then ?_
        refine c_seq ?_
        refine c_block ?_
        refine c_draw hmix (by kernel_rfl) ?_
        refine w_pure (p_move (v := .bool in_) rfl) rfl rfl rfl ?_
        refine w_pure (p_move (v := .bool in_) rfl) rfl rfl rfl ?_
        refine w_or (p := 55) 12 (((((Clock.run (⟨room, 0, []⟩ : DClock) l).1).frames)[k]).key == l[i]) ?_ ?_ ?_
        · intro hb12 hk
          skip
          refine w_unguard 43 rfl rfl ?_
          refine w_pure (p_fieldAddr (B := B5) (j := 0) (j' := 2) rfl fo59_2 rfl) rfl rfl rfl ?_
          refine w_unguard 43 rfl rfl ?_
          refine w_pure (p_load (i := 0) (v := .slice a3 (((Clock.run (⟨room, 0, []⟩ : DClock) l).1).frames).length c4) rfl rfl sh57 rfl) rfl rfl rfl ?_
          refine w_unguard 43 rfl rfl ?_
          refine w_pure (p_move (v := .int .i64 (k : Int)) rfl) rfl rfl rfl ?_
          refine w_unguard 43 rfl rfl ?_
          refine w_pure (p_indexAddr (L := ((Clock.run (⟨room, 0, []⟩ : DClock) l).1).frames) (T := tFrame) (i := (k : Int)) rfl rfl (rd_own (i := 1) rfl) Try.underlying57 sz73 (by omega) (by omega)) rfl rfl rfl ?_
          refine w_unguard 43 rfl rfl ?_
          refine w_pure (p_fieldAddrE rfl fo73_0) rfl rfl rfl ?_
          refine w_unguard 43 rfl rfl ?_
          refine w_pure (p_loadF (i := k) (j := 0) (T := tFrame) (L := ((Clock.run (⟨room, 0, []⟩ : DClock) l).1).frames) (v := .int .i64 (((((Clock.run (⟨room, 0, []⟩ : DClock) l).1).frames)[k]).key)) rfl (rd_own (i := 1) rfl) (by first | assumption | omega) sh3 rfl) rfl rfl rfl ?_
          refine w_unguard 43 rfl rfl ?_
          refine w_pure (p_move (v := .slice al l.length cl) rfl) rfl rfl rfl ?_
          refine w_unguard 43 rfl rfl ?_
          refine w_pure (p_move (v := .int .i64 (i : Int)) rfl) rfl rfl rfl ?_
          refine w_unguard 43 rfl rfl ?_
          refine w_pure (p_indexAddr (L := l) (T := tInt) (i := (i : Int)) rfl rfl (rd_base (i := 2) rfl hl) Try.underlying22 sz3 (by omega) (by omega)) rfl rfl rfl ?_
          refine w_unguard 43 rfl rfl ?_
          refine w_pure (p_loadE1 (i := i) (T := tInt) (L := l) (v := .int .i64 (l[i])) rfl (rd_base (i := 2) rfl hl) (by first | assumption | omega) sh3 rfl) rfl rfl rfl ?_
          refine w_unguard 43 rfl rfl ?_
          refine w_pure (p_eq (p := ((((Clock.run (⟨room, 0, []⟩ : DClock) l).1).frames)[k]).key) (q := l[i]) rfl rfl) rfl rfl rfl ?_
          refine w_pure (p_pick_false (v := .bool (((((Clock.run (⟨room, 0, []⟩ : DClock) l).1).frames)[k]).key == l[i])) rfl rfl) rfl rfl rfl ?_
          exact w_sub (Sub.cons rfl (Sub.skip rfl (Sub.skip rfl (Sub.skip rfl (Sub.skip rfl (Sub.skip rfl (Sub.skip rfl (Sub.skip rfl (Sub.skip rfl (Sub.skip rfl (Sub.skip rfl (Sub.skip rfl (Sub.skip rfl (Sub.skip rfl (Sub.refl _))))))))))))))) hk
        · intro hb12 hk
          refine w_guard_no rfl 43 rfl rfl rfl rfl rfl ?_
          refine w_guard_no rfl 43 rfl rfl rfl rfl rfl ?_
          refine w_guard_no rfl 43 rfl rfl rfl rfl rfl ?_
          refine w_guard_no rfl 43 rfl rfl rfl rfl rfl ?_
          refine w_guard_no rfl 43 rfl rfl rfl rfl rfl ?_
          refine w_guard_no rfl 43 rfl rfl rfl rfl rfl ?_
          refine w_guard_no rfl 43 rfl rfl rfl rfl rfl ?_
          refine w_guard_no rfl 43 rfl rfl rfl rfl rfl ?_
          refine w_guard_no rfl 43 rfl rfl rfl rfl rfl ?_
          refine w_guard_no rfl 43 rfl rfl rfl rfl rfl ?_
          refine w_guard_no rfl 43 rfl rfl rfl rfl rfl ?_
          refine w_pure (p_pick_true (u := .bool true) rfl rfl) rfl rfl rfl ?_
          exact w_sub (Sub.cons rfl (Sub.skip rfl (Sub.skip rfl (Sub.skip rfl (Sub.skip rfl (Sub.skip rfl (Sub.skip rfl (Sub.skip rfl (Sub.skip rfl (Sub.skip rfl (Sub.skip rfl (Sub.skip rfl (Sub.skip rfl (Sub.skip rfl (Sub.refl _))))))))))))))) hk
        refine w_pure (p_assign (v := .bool (in_ || (((((Clock.run (⟨room, 0, []⟩ : DClock) l).1).frames)[k]).key == l[i]))) rfl) rfl rfl rfl ?_
        refine w_nil ?_
        refine q_block_normal (q_then ?_)
        refine c_region ?_
        refine o_pure (p_move (v := .int .i64 (k : Int)) rfl) rfl rfl rfl ?_
        refine o_pure (p_addb (p := (k : Int)) (q := 1) rfl rfl (by omega)) rfl rfl rfl ?_
        refine o_pure (p_assign (v := .int .i64 ((k : Int) + 1)) rfl) rfl rfl rfl ?_
        refine o_nil ?_
        refine q_round hK10 ((in_ || (((((Clock.run (⟨room, 0, []⟩ : DClock) l).1).frames)[k]).key == l[i])), k + 1) ?_ ?_ ?_ ?_
        · clear hK10
          exact hI.next (by omega)
        · (try dsimp only); omega
        · exact Sub.cons rfl (Sub.cons rfl (Sub.cons rfl (Sub.cons rfl (Sub.cons rfl (Sub.cons rfl (Sub.nil _))))))
        · exact fun _ hw => HeapIs.pick hw [0, 1, 2] (by decide) rfl
      · simp only [decide_eq_false_iff_not, Int.not_lt] at hc11
        have hA := hI
        refine c_exit ?_
        refine q_then_exit (q_then_exit (q_block_exit (q_then ?_)))
        refine c_seq ?_
        refine c_region ?_
        refine o_pure (p_assign (v := .bool true) rfl) rfl rfl rfl ?_
        refine o_nil ?_
        refine q_then ?_
        refine c_seq ?_
        refine c_seq ?_
        refine c_region ?_
        refine o_pure (p_move (v := .int .i64 (i : Int)) rfl) rfl rfl rfl ?_
        refine o_pure (p_addb (p := (i : Int)) (q := 1) rfl rfl (by omega)) rfl rfl rfl ?_
        refine o_pure (p_assign (v := .int .i64 ((i : Int) + 1)) rfl) rfl rfl rfl ?_
        refine o_nil ?_
        refine q_then ?_
        refine c_block ?_
        refine c_loop (St := Bool × Nat)
          (fun ⟨last, k2⟩ => [(0, .int .i64 room), (1, .slice al l.length cl), (5, .pointer (some ⟨B5, 0, none⟩)), (8, .int .i64 (i : Int)), (9, .bool in_), (11, .bool last), (12, .int .i64 (k2 : Int))])
          (fun ⟨last, k2⟩ => [box B5 [.int .i64 (((Clock.run (⟨room, 0, []⟩ : DClock) l).1).room), .int .i64 (((Clock.run (⟨room, 0, []⟩ : DClock) l).1).hand), .slice a3 (((Clock.run (⟨room, 0, []⟩ : DClock) l).1).frames).length c4] 59, own tFrame S1 a3 c4 (((Clock.run (⟨room, 0, []⟩ : DClock) l).1).frames), base w0])
          (fun ⟨last, k2⟩ => Clock.LInv l i last k2)
          (fun ⟨last, k2⟩ => l.length - k2)
          (true, (i + 1)) ?_ (Sub.cons rfl (Sub.cons rfl (Sub.cons rfl (Sub.cons rfl (Sub.cons rfl (Sub.cons rfl (Sub.cons rfl (Sub.nil _)))))))) (fun _ hw => hw) ?_
        · exact Clock.LInv.start (by omega)
        rintro ⟨last, k2⟩ hI K hK13
        show SC _ _ Try.prog 87 w0 _ _ [(0, .int .i64 room), (1, .slice al l.length cl), (5, .pointer (some ⟨B5, 0, none⟩)), (8, .int .i64 (i : Int)), (9, .bool in_), (11, .bool last), (12, .int .i64 (k2 : Int))] [box B5 [.int .i64 (((Clock.run (⟨room, 0, []⟩ : DClock) l).1).room), .int .i64 (((Clock.run (⟨room, 0, []⟩ : DClock) l).1).hand), .slice a3 (((Clock.run (⟨room, 0, []⟩ : DClock) l).1).frames).length c4] 59, own tFrame S1 a3 c4 (((Clock.run (⟨room, 0, []⟩ : DClock) l).1).frames), base w0]
        refine c_seq ?_
        refine c_seq ?_
        refine c_region ?_
        refine o_pure (p_move (v := .int .i64 (k2 : Int)) rfl) rfl rfl rfl ?_
        refine o_pure (p_move (v := .slice al l.length cl) rfl) rfl rfl rfl ?_
        refine o_pure (p_len_slice (len := l.length) rfl rfl Try.underlying22) rfl rfl rfl ?_
        refine o_pure (p_lt (p := (k2 : Int)) (q := (l.length : Int)) rfl rfl) rfl rfl rfl ?_
        refine o_nil ?_
        refine q_then ?_
        refine c_cond (b := decide ((k2 : Int) < (l.length : Int))) rfl (fun hc14 => ?_) (fun hc14 => ?_)
        · simp only [decide_eq_true_eq] at hc14
          refine c_skip ?_
          refine q_then ?_
          refine c_seq ?_
          refine c_block ?_
          refine c_draw hmix (by kernel_rfl) ?_
          refine w_pure (p_move (v := .bool last) rfl) rfl rfl rfl ?_
          refine w_pure (p_move (v := .bool last) rfl) rfl rfl rfl ?_
          refine w_and (p := 75) 10 (l[k2] != l[i]) ?_ ?_ ?_
          · intro hb15 hk
            skip
            refine w_unguard 65 rfl rfl ?_
            refine w_pure (p_move (v := .slice al l.length cl) rfl) rfl rfl rfl ?_
            refine w_unguard 65 rfl rfl ?_
            refine w_pure (p_move (v := .int .i64 (k2 : Int)) rfl) rfl rfl rfl ?_
            refine w_unguard 65 rfl rfl ?_
            refine w_pure (p_indexAddr (L := l) (T := tInt) (i := (k2 : Int)) rfl rfl (rd_base (i := 2) rfl hl) Try.underlying22 sz3 (by omega) (by omega)) rfl rfl rfl ?_
            refine w_unguard 65 rfl rfl ?_
            refine w_pure (p_loadE1 (i := k2) (T := tInt) (L := l) (v := .int .i64 (l[k2])) rfl (rd_base (i := 2) rfl hl) (by first | assumption | omega) sh3 rfl) rfl rfl rfl ?_
            refine w_unguard 65 rfl rfl ?_
            refine w_pure (p_move (v := .slice al l.length cl) rfl) rfl rfl rfl ?_
            refine w_unguard 65 rfl rfl ?_
            refine w_pure (p_move (v := .int .i64 (i : Int)) rfl) rfl rfl rfl ?_
            refine w_unguard 65 rfl rfl ?_
            refine w_pure (p_indexAddr (L := l) (T := tInt) (i := (i : Int)) rfl rfl (rd_base (i := 2) rfl hl) Try.underlying22 sz3 (by omega) (by omega)) rfl rfl rfl ?_
            refine w_unguard 65 rfl rfl ?_
            refine w_pure (p_loadE1 (i := i) (T := tInt) (L := l) (v := .int .i64 (l[i])) rfl (rd_base (i := 2) rfl hl) (by first | assumption | omega) sh3 rfl) rfl rfl rfl ?_
            refine w_unguard 65 rfl rfl ?_
            refine w_pure (p_ne (p := l[k2]) (q := l[i]) rfl rfl) rfl rfl rfl ?_
            refine w_pure (p_pick_true (u := .bool (l[k2] != l[i])) rfl rfl) rfl rfl rfl ?_
            exact w_sub (Sub.cons rfl (Sub.skip rfl (Sub.skip rfl (Sub.skip rfl (Sub.skip rfl (Sub.skip rfl (Sub.skip rfl (Sub.skip rfl (Sub.skip rfl (Sub.skip rfl (Sub.skip rfl (Sub.skip rfl (Sub.refl _))))))))))))) hk
          · intro hb15 hk
            refine w_guard_no rfl 65 rfl rfl rfl rfl rfl ?_
            refine w_guard_no rfl 65 rfl rfl rfl rfl rfl ?_
            refine w_guard_no rfl 65 rfl rfl rfl rfl rfl ?_
            refine w_guard_no rfl 65 rfl rfl rfl rfl rfl ?_
            refine w_guard_no rfl 65 rfl rfl rfl rfl rfl ?_
            refine w_guard_no rfl 65 rfl rfl rfl rfl rfl ?_
            refine w_guard_no rfl 65 rfl rfl rfl rfl rfl ?_
            refine w_guard_no rfl 65 rfl rfl rfl rfl rfl ?_
            refine w_guard_no rfl 65 rfl rfl rfl rfl rfl ?_
            refine w_pure (p_pick_false (v := .bool false) rfl rfl) rfl rfl rfl ?_
            exact w_sub (Sub.cons rfl (Sub.skip rfl (Sub.skip rfl (Sub.skip rfl (Sub.skip rfl (Sub.skip rfl (Sub.skip rfl (Sub.skip rfl (Sub.skip rfl (Sub.skip rfl (Sub.skip rfl (Sub.skip rfl (Sub.refl _))))))))))))) hk
          refine w_pure (p_assign (v := .bool (last && (l[k2] != l[i]))) rfl) rfl rfl rfl ?_
          refine w_nil ?_
          refine q_block_normal (q_then ?_)
          refine c_region ?_
          refine o_pure (p_move (v := .int .i64 (k2 : Int)) rfl) rfl rfl rfl ?_
          refine o_pure (p_addb (p := (k2 : Int)) (q := 1) rfl rfl (by omega)) rfl rfl rfl ?_
          refine o_pure (p_assign (v := .int .i64 ((k2 : Int) + 1)) rfl) rfl rfl rfl ?_
          refine o_nil ?_
          refine q_round hK13 ((last && (l[k2] != l[i])), k2 + 1) ?_ ?_ ?_ ?_
          · clear hK13
            exact hI.next (by omega) (by omega)
          · (try dsimp only); omega
          · exact Sub.cons rfl (Sub.cons rfl (Sub.cons rfl (Sub.cons rfl (Sub.cons rfl (Sub.cons rfl (Sub.cons rfl (Sub.nil _)))))))
          · exact fun _ hw => HeapIs.pick hw [0, 1, 2] (by decide) rfl
        · simp only [decide_eq_false_iff_not, Int.not_lt] at hc14
          refine c_exit ?_
          refine q_then_exit (q_then_exit (q_block_exit (q_then ?_)))
          refine c_seq ?_
          refine c_region ?_
          refine o_pure (p_move (v := .bool last) rfl) rfl rfl rfl ?_
          refine o_pure (p_move (v := .bool last) rfl) rfl rfl rfl ?_
          refine o_and (p := 86) 9 (in_ != decide (((l.length : Int) - room) ≤ (i : Int))) ?_ ?_ ?_
          · intro hb16 hk
            skip
            refine o_unguard 77 rfl rfl ?_
            refine o_pure (p_move (v := .bool in_) rfl) rfl rfl rfl ?_
            refine o_unguard 77 rfl rfl ?_
            refine o_pure (p_move (v := .int .i64 (i : Int)) rfl) rfl rfl rfl ?_
            refine o_unguard 77 rfl rfl ?_
            refine o_pure (p_move (v := .slice al l.length cl) rfl) rfl rfl rfl ?_
            refine o_unguard 77 rfl rfl ?_
            refine o_pure (p_len_slice (len := l.length) rfl rfl Try.underlying22) rfl rfl rfl ?_
            refine o_unguard 77 rfl rfl ?_
            refine o_pure (p_move (v := .int .i64 room) rfl) rfl rfl rfl ?_
            refine o_unguard 77 rfl rfl ?_
            refine o_pure (p_subb (p := (l.length : Int)) (q := room) rfl rfl (by omega)) rfl rfl rfl ?_
            refine o_unguard 77 rfl rfl ?_
            refine o_pure (p_ge (p := (i : Int)) (q := ((l.length : Int) - room)) rfl rfl) rfl rfl rfl ?_
            refine o_unguard 77 rfl rfl ?_
            refine o_pure (p_neBool (b := in_) (c := decide (((l.length : Int) - room) ≤ (i : Int))) rfl rfl Try.underlying4) rfl rfl rfl ?_
            refine o_pure (p_pick_true (u := .bool (in_ != decide (((l.length : Int) - room) ≤ (i : Int)))) rfl rfl) rfl rfl rfl ?_
            exact o_sub (Sub.cons rfl (Sub.skip rfl (Sub.skip rfl (Sub.skip rfl (Sub.skip rfl (Sub.skip rfl (Sub.skip rfl (Sub.skip rfl (Sub.skip rfl (Sub.skip rfl (Sub.skip rfl (Sub.refl _)))))))))))) hk
          · intro hb16 hk
            refine o_guard_no rfl 77 rfl rfl rfl rfl rfl ?_
            refine o_guard_no rfl 77 rfl rfl rfl rfl rfl ?_
            refine o_guard_no rfl 77 rfl rfl rfl rfl rfl ?_
            refine o_guard_no rfl 77 rfl rfl rfl rfl rfl ?_
            refine o_guard_no rfl 77 rfl rfl rfl rfl rfl ?_
            refine o_guard_no rfl 77 rfl rfl rfl rfl rfl ?_
            refine o_guard_no rfl 77 rfl rfl rfl rfl rfl ?_
            refine o_guard_no rfl 77 rfl rfl rfl rfl rfl ?_
            refine o_pure (p_pick_false (v := .bool false) rfl rfl) rfl rfl rfl ?_
            exact o_sub (Sub.cons rfl (Sub.skip rfl (Sub.skip rfl (Sub.skip rfl (Sub.skip rfl (Sub.skip rfl (Sub.skip rfl (Sub.skip rfl (Sub.skip rfl (Sub.skip rfl (Sub.skip rfl (Sub.refl _)))))))))))) hk
          refine o_nil ?_
          refine q_then ?_
          refine c_cond (b := (last && (in_ != decide (((l.length : Int) - room) ≤ (i : Int))))) rfl (fun hc17 => ?_) (fun hc17 => ?_)
          · simp only [Bool.and_eq_true, bne_iff_ne, ne_eq] at hc17
            exfalso; exact Clock.fifo_no hfe.1 hfe.2 (by omega) hA (by omega) hI (by omega) hc17
          · simp only [Bool.and_eq_false_iff, bne_eq_false_iff_eq] at hc17
            refine c_skip ?_
            refine q_block_normal (q_then ?_)
            refine c_region ?_
            refine o_pure (p_move (v := .int .i64 (i : Int)) rfl) rfl rfl rfl ?_
            refine o_pure (p_addb (p := (i : Int)) (q := 1) rfl rfl (by omega)) rfl rfl rfl ?_
            refine o_pure (p_assign (v := .int .i64 ((i : Int) + 1)) rfl) rfl rfl rfl ?_
            refine o_nil ?_
            refine q_round hK8 (i + 1) ?_ ?_ ?_ ?_
            · clear hK8
              omega
            · (try dsimp only); omega
            · exact Sub.cons rfl (Sub.cons rfl (Sub.cons rfl (Sub.cons rfl (Sub.nil _))))
            · exact fun _ hw => HeapIs.pick hw [0, 1, 2] (by decide) rfl
    · simp only [decide_eq_false_iff_not, Int.not_lt] at hc9
      refine c_exit ?_
      refine q_then_exit (q_then_exit (q_block_exit (q_then ?_)))
      refine c_seq ?_
      refine c_region ?_
      refine o_pure (p_assign (v := .bool true) rfl) rfl rfl rfl ?_
      refine o_nil ?_
      refine q_then ?_
      refine c_ret ?_
      refine q_end0 (v := .bool true) (rt1 rfl (r_tmp rfl)) (i := 2) rfl ?_
      exact rfl
end Go.Proofs.Ythbfdhphnofacab
