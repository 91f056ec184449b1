/- The walks, printed by a program from the translation and a specification. -/
import Derived.Test.YtgjdmnljnimamaaRgF
import Derived.Test.YtgjdmnljnimamaaRgLaw3
import Derived.Test.YtgjdmnljnimamaaRgW2
namespace Go.Proofs.Ytgjdmnljnimamaa
open Go.Sx Go.RowKit
set_option maxHeartbeats 8000000 in
set_option maxRecDepth 100000 in
theorem rfcheck_ok (l : List DPoint) (al : Option Addr) (cl : Nat) : Fn0 Try.prog 19 [.slice al l.length cl] (fun w => Rd tPoint w al cl l) (.int .i64 (Rg.check l)) := by
  refine fn0 (nt := 45) (F0 := [(0, .slice al l.length cl)]) Try.func19 rfl Try.ntmps19 rfl rfl (fun w0 hpre => ?_)
  have hl := hpre
  have hlhl := hl.2.1
  refine c_seq ?_
  refine c_region ?_
  refine o_pure (p_assign (v := .int .i64 0) rfl) rfl rfl rfl ?_
  refine o_nil ?_
  refine q_then ?_
  refine c_seq ?_
  refine c_seq ?_
  refine c_region ?_
  refine o_pure (p_move (v := .slice al l.length cl) rfl) rfl rfl rfl ?_
  refine o_pure (p_len_slice (len := l.length) rfl rfl Try.underlying22) rfl rfl rfl ?_
  refine o_pure (p_gt (p := (l.length : Int)) (q := 60) rfl rfl) rfl rfl rfl ?_
  refine o_nil ?_
  refine q_then ?_
  refine c_cond (b := decide (60 < (l.length : Int))) rfl (fun hc1 => ?_) (fun hc1 => ?_)
  · simp only [decide_eq_true_eq] at hc1
    refine c_seq ?_
    refine c_region ?_
    refine o_pure (p_assign (v := .int .i64 2) rfl) rfl rfl rfl ?_
    refine o_nil ?_
    refine q_then ?_
    refine c_ret ?_
    refine q_then_ret ?_
    have hr0 : (2 : Int) = (Rg.check l) := by
      first | exact Rg.chk2 (by assumption) | exact hI.bad (by omega) (by omega) (Rg.bad_of _ (by assumption)) | exact hI.low (by omega) (by omega) hfp (by omega) (by omega) (by omega) hlo.2 | exact hI.done (by omega) (by omega)
    refine q_end0 (v := .int .i64 2) (rt1 rfl (r_tmp rfl)) (i := 0) rfl ?_
    exact (by have hcc := congrArg (fun (y0 : Int) => (.int .i64 y0 : Value)) hr0; exact hcc)
  · simp only [decide_eq_false_iff_not, Int.not_lt] at hc1
    refine c_skip ?_
    refine q_then ?_
    refine c_seq ?_
    refine c_seq ?_
    refine c_region ?_
    refine o_pure (p_assign (v := .int .i64 0) rfl) rfl rfl rfl ?_
    refine o_nil ?_
    refine q_then ?_
    refine c_block ?_
    refine c_loop (St := Nat)
      (fun i => [(0, .slice al l.length cl), (3, .int .i64 (i : Int))])
      (fun i => [base w0])
      (fun i => Rg.RkI l i)
      (fun i => l.length - i)
      0 ?_ (Sub.cons rfl (Sub.cons rfl (Sub.nil _))) (fun _ hw => hw) ?_
    · exact Rg.RkI.start _
    rintro i hI K hK2
    have hle := hI.le
    show SC _ _ Try.prog 45 w0 _ _ [(0, .slice al l.length cl), (3, .int .i64 (i : Int))] [base w0]
    refine c_seq ?_
    refine c_seq ?_
    refine c_region ?_
    refine o_pure (p_move (v := .int .i64 (i : Int)) rfl) rfl rfl rfl ?_
    refine o_pure (p_move (v := .slice al l.length cl) rfl) rfl rfl rfl ?_
    refine o_pure (p_len_slice (len := l.length) rfl rfl Try.underlying22) rfl rfl rfl ?_
    refine o_pure (p_lt (p := (i : Int)) (q := (l.length : Int)) rfl rfl) rfl rfl rfl ?_
    refine o_nil ?_
    refine q_then ?_
    refine c_cond (b := decide ((i : Int) < (l.length : Int))) rfl (fun hc3 => ?_) (fun hc3 => ?_)
    · simp only [decide_eq_true_eq] at hc3
      refine c_skip ?_
      refine q_then ?_
      refine c_seq ?_
      refine c_block ?_
      refine c_seq ?_
      refine c_seq ?_
      refine c_region ?_
      refine o_pure (p_move (v := .slice al l.length cl) rfl) rfl rfl rfl ?_
      refine o_pure (p_move (v := .int .i64 (i : Int)) rfl) rfl rfl rfl ?_
      refine o_pure (p_indexAddr (L := l) (T := tPoint) (i := (i : Int)) rfl rfl (rd_base (i := 0) rfl hl) Try.underlying22 sz35 (by omega) (by omega)) rfl rfl rfl ?_
      refine o_pure (p_fieldAddrE rfl fo35_1) rfl rfl rfl ?_
      refine o_pure (p_loadF (i := i) (j := 1) (T := tPoint) (L := l) (v := .int .i64 ((l[i]).shard)) rfl (rd_base (i := 0) rfl hl) (by first | assumption | omega) sh3 rfl) rfl rfl rfl ?_
      refine o_call0 (v := .bool (Ref.between ((l[i]).shard) (0 : Int) (19 : Int))) rfl (between_ok ((l[i]).shard) (0 : Int) (19 : Int)) hf57 (fun _ _ => trivial) rfl ?_
      refine o_pure (p_not (b := (Ref.between ((l[i]).shard) (0 : Int) (19 : Int))) rfl) rfl rfl rfl ?_
      refine o_pure (p_move (v := .bool (!(Ref.between ((l[i]).shard) (0 : Int) (19 : Int)))) rfl) rfl rfl rfl ?_
      refine o_or (p := 28) 8 (!(Ref.between ((l[i]).at_) (0 : Int) (65535 : Int))) ?_ ?_ ?_
      · intro hb4 hk
        simp only [Bool.not_eq_false'] at hb4
        refine o_unguard 20 rfl rfl ?_
        refine o_pure (p_move (v := .slice al l.length cl) rfl) rfl rfl rfl ?_
        refine o_unguard 20 rfl rfl ?_
        refine o_pure (p_move (v := .int .i64 (i : Int)) rfl) rfl rfl rfl ?_
        refine o_unguard 20 rfl rfl ?_
        refine o_pure (p_indexAddr (L := l) (T := tPoint) (i := (i : Int)) rfl rfl (rd_base (i := 0) rfl hl) Try.underlying22 sz35 (by omega) (by omega)) rfl rfl rfl ?_
        refine o_unguard 20 rfl rfl ?_
        refine o_pure (p_fieldAddrE rfl fo35_0) rfl rfl rfl ?_
        refine o_unguard 20 rfl rfl ?_
        refine o_pure (p_loadF (i := i) (j := 0) (T := tPoint) (L := l) (v := .int .i64 ((l[i]).at_)) rfl (rd_base (i := 0) rfl hl) (by first | assumption | omega) sh3 rfl) rfl rfl rfl ?_
        refine o_unguard 20 rfl rfl ?_
        refine o_call0 (v := .bool (Ref.between ((l[i]).at_) (0 : Int) (65535 : Int))) rfl (between_ok ((l[i]).at_) (0 : Int) (65535 : Int)) hf57 (fun _ _ => trivial) rfl ?_
        refine o_unguard 20 rfl rfl ?_
        refine o_pure (p_not (b := (Ref.between ((l[i]).at_) (0 : Int) (65535 : Int))) rfl) rfl rfl rfl ?_
        refine o_pure (p_pick_false (v := .bool (!(Ref.between ((l[i]).at_) (0 : Int) (65535 : Int)))) rfl rfl) rfl rfl rfl ?_
        exact o_sub (Sub.cons rfl (Sub.skip rfl (Sub.skip rfl (Sub.skip rfl (Sub.skip rfl (Sub.skip rfl (Sub.skip rfl (Sub.skip rfl (Sub.skip rfl (Sub.skip rfl (Sub.refl _))))))))))) hk
      · intro hb4 hk
        refine o_guard_no rfl 20 rfl rfl rfl rfl rfl ?_
        refine o_guard_no rfl 20 rfl rfl rfl rfl rfl ?_
        refine o_guard_no rfl 20 rfl rfl rfl rfl rfl ?_
        refine o_guard_no rfl 20 rfl rfl rfl rfl rfl ?_
        refine o_guard_no rfl 20 rfl rfl rfl rfl rfl ?_
        refine o_guard_no rfl 20 rfl rfl rfl rfl rfl ?_
        refine o_guard_no rfl 20 rfl rfl rfl rfl rfl ?_
        refine o_pure (p_pick_true (u := .bool true) rfl rfl) rfl rfl rfl ?_
        exact o_sub (Sub.cons rfl (Sub.skip rfl (Sub.skip rfl (Sub.skip rfl (Sub.skip rfl (Sub.skip rfl (Sub.skip rfl (Sub.skip rfl (Sub.skip rfl (Sub.skip rfl (Sub.refl _))))))))))) hk
      refine o_nil ?_
      refine q_then ?_
      refine c_cond (b := ((!(Ref.between ((l[i]).shard) (0 : Int) (19 : Int))) || (!(Ref.between ((l[i]).at_) (0 : Int) (65535 : Int))))) rfl (fun hc5 => ?_) (fun hc5 => ?_)
      · simp only [Bool.or_eq_true, Bool.not_eq_true'] at hc5
        refine c_seq ?_
        refine c_region ?_
        refine o_pure (p_assign (v := .int .i64 3) rfl) rfl rfl rfl ?_
        refine o_nil ?_
        refine q_then ?_
        refine c_ret ?_
        refine q_then_ret (q_block_ret (q_then_ret (q_then_ret (q_block_ret (q_then_ret ?_)))))
        have hr0 : (3 : Int) = (Rg.check l) := by
          first | exact Rg.chk2 (by assumption) | exact hI.bad (by omega) (by omega) (Rg.bad_of _ (by assumption)) | exact hI.low (by omega) (by omega) hfp (by omega) (by omega) (by omega) hlo.2 | exact hI.done (by omega) (by omega)
        refine q_end0 (v := .int .i64 3) (rt1 rfl (r_tmp rfl)) (i := 0) rfl ?_
        exact (by have hcc := congrArg (fun (y0 : Int) => (.int .i64 y0 : Value)) hr0; exact hcc)
      · simp only [Bool.or_eq_false_iff, Bool.not_eq_false'] at hc5
        have hfp := Rg.fine_of (by omega) hc5
        refine c_skip ?_
        refine q_then ?_
        refine c_seq ?_
        refine c_draw hmix (by kernel_rfl) ?_
        refine w_pure (p_move (v := .int .i64 (i : Int)) rfl) rfl rfl rfl ?_
        refine w_pure (p_gt (p := (i : Int)) (q := 0) rfl rfl) rfl rfl rfl ?_
        refine w_pure (p_move (v := .bool (decide (0 < (i : Int)))) rfl) rfl rfl rfl ?_
        refine w_and (p := 44) 13 (decide ((l[i]).at_ ≤ (l[((i : Int) - 1).toNat]).at_)) ?_ ?_ ?_
        · intro hb6 hk
          simp only [decide_eq_true_eq] at hb6
          refine w_unguard 31 rfl rfl ?_
          refine w_pure (p_move (v := .slice al l.length cl) rfl) rfl rfl rfl ?_
          refine w_unguard 31 rfl rfl ?_
          refine w_pure (p_move (v := .int .i64 (i : Int)) rfl) rfl rfl rfl ?_
          refine w_unguard 31 rfl rfl ?_
          refine w_pure (p_indexAddr (L := l) (T := tPoint) (i := (i : Int)) rfl rfl (rd_base (i := 0) rfl hl) Try.underlying22 sz35 (by omega) (by omega)) rfl rfl rfl ?_
          refine w_unguard 31 rfl rfl ?_
          refine w_pure (p_fieldAddrE rfl fo35_0) rfl rfl rfl ?_
          refine w_unguard 31 rfl rfl ?_
          refine w_pure (p_loadF (i := i) (j := 0) (T := tPoint) (L := l) (v := .int .i64 ((l[i]).at_)) rfl (rd_base (i := 0) rfl hl) (by first | assumption | omega) sh3 rfl) rfl rfl rfl ?_
          refine w_unguard 31 rfl rfl ?_
          refine w_pure (p_move (v := .slice al l.length cl) rfl) rfl rfl rfl ?_
          refine w_unguard 31 rfl rfl ?_
          refine w_pure (p_move (v := .int .i64 (i : Int)) rfl) rfl rfl rfl ?_
          refine w_unguard 31 rfl rfl ?_
          refine w_pure (p_subb (p := (i : Int)) (q := 1) rfl rfl (by omega)) rfl rfl rfl ?_
          refine w_unguard 31 rfl rfl ?_
          refine w_pure (p_indexAddr (L := l) (T := tPoint) (i := ((i : Int) - 1)) rfl rfl (rd_base (i := 0) rfl hl) Try.underlying22 sz35 (by omega) (by omega)) rfl rfl rfl ?_
          refine w_unguard 31 rfl rfl ?_
          refine w_pure (p_fieldAddrE rfl fo35_0) rfl rfl rfl ?_
          refine w_unguard 31 rfl rfl ?_
          refine w_pure (p_loadF (i := ((i : Int) - 1).toNat) (j := 0) (T := tPoint) (L := l) (v := .int .i64 ((l[((i : Int) - 1).toNat]).at_)) rfl (rd_base (i := 0) rfl hl) (by first | assumption | omega) sh3 rfl) rfl rfl rfl ?_
          refine w_unguard 31 rfl rfl ?_
          refine w_pure (p_le (p := (l[i]).at_) (q := (l[((i : Int) - 1).toNat]).at_) rfl rfl) rfl rfl rfl ?_
          refine w_pure (p_pick_true (u := .bool (decide ((l[i]).at_ ≤ (l[((i : Int) - 1).toNat]).at_))) rfl rfl) rfl rfl rfl ?_
          exact w_sub (Sub.cons rfl (Sub.skip rfl (Sub.skip rfl (Sub.skip rfl (Sub.skip rfl (Sub.skip rfl (Sub.skip rfl (Sub.skip rfl (Sub.skip rfl (Sub.skip rfl (Sub.skip rfl (Sub.skip rfl (Sub.skip rfl (Sub.skip rfl (Sub.skip rfl (Sub.refl _)))))))))))))))) hk
        · intro hb6 hk
          refine w_guard_no rfl 31 rfl rfl rfl rfl rfl ?_
          refine w_guard_no rfl 31 rfl rfl rfl rfl rfl ?_
          refine w_guard_no rfl 31 rfl rfl rfl rfl rfl ?_
          refine w_guard_no rfl 31 rfl rfl rfl rfl rfl ?_
          refine w_guard_no rfl 31 rfl rfl rfl rfl rfl ?_
          refine w_guard_no rfl 31 rfl rfl rfl rfl rfl ?_
          refine w_guard_no rfl 31 rfl rfl rfl rfl rfl ?_
          refine w_guard_no rfl 31 rfl rfl rfl rfl rfl ?_
          refine w_guard_no rfl 31 rfl rfl rfl rfl rfl ?_
          refine w_guard_no rfl 31 rfl rfl rfl rfl rfl ?_
          refine w_guard_no rfl 31 rfl rfl rfl rfl rfl ?_
          refine w_guard_no rfl 31 rfl rfl rfl rfl rfl ?_
          refine w_pure (p_pick_false (v := .bool false) rfl rfl) rfl rfl rfl ?_
          exact w_sub (Sub.cons rfl (Sub.skip rfl (Sub.skip rfl (Sub.skip rfl (Sub.skip rfl (Sub.skip rfl (Sub.skip rfl (Sub.skip rfl (Sub.skip rfl (Sub.skip rfl (Sub.skip rfl (Sub.skip rfl (Sub.skip rfl (Sub.skip rfl (Sub.skip rfl (Sub.refl _)))))))))))))))) hk
        refine w_nil ?_
        refine q_then ?_
        refine c_cond (b := (decide (0 < (i : Int)) && decide ((l[i]).at_ ≤ (l[((i : Int) - 1).toNat]).at_))) rfl (fun hc7 => ?_) (fun hc7 => ?_)
        · simp only [Bool.and_eq_true, decide_eq_true_eq] at hc7
          have hlo := hc7
          refine c_seq ?_
          refine c_region ?_
          refine o_pure (p_assign (v := .int .i64 4) rfl) rfl rfl rfl ?_
          refine o_nil ?_
          refine q_then ?_
          refine c_ret ?_
          refine q_block_ret (q_then_ret (q_then_ret (q_block_ret (q_then_ret ?_))))
          have hr0 : (4 : Int) = (Rg.check l) := by
            first | exact Rg.chk2 (by assumption) | exact hI.bad (by omega) (by omega) (Rg.bad_of _ (by assumption)) | exact hI.low (by omega) (by omega) hfp (by omega) (by omega) (by omega) hlo.2 | exact hI.done (by omega) (by omega)
          refine q_end0 (v := .int .i64 4) (rt1 rfl (r_tmp rfl)) (i := 0) rfl ?_
          exact (by have hcc := congrArg (fun (y0 : Int) => (.int .i64 y0 : Value)) hr0; exact hcc)
        · simp only [Bool.and_eq_false_iff, decide_eq_false_iff_not, Int.not_lt, Int.not_le] at hc7
          have hlo := hc7
          refine c_skip ?_
          refine q_block_normal (q_then ?_)
          refine c_region ?_
          refine o_pure (p_move (v := .int .i64 (i : Int)) rfl) rfl rfl rfl ?_
          refine o_pure (p_addb (p := (i : Int)) (q := 1) rfl rfl (by omega)) rfl rfl rfl ?_
          refine o_pure (p_assign (v := .int .i64 ((i : Int) + 1)) rfl) rfl rfl rfl ?_
          refine o_nil ?_
          refine q_round hK2 (i + 1) ?_ ?_ ?_ ?_
          · clear hK2
            exact hI.next (by omega) hfp (hlo.imp (by omega) fun h => ⟨((i : Int) - 1).toNat, by omega, by omega, h⟩)
          · (try dsimp only); omega
          · exact Sub.cons rfl (Sub.cons rfl (Sub.nil _))
          · exact fun _ hw => HeapIs.pick hw [0] (by decide) rfl
    · simp only [decide_eq_false_iff_not, Int.not_lt] at hc3
      refine c_exit ?_
      refine q_then_exit (q_then_exit (q_block_exit (q_then ?_)))
      refine c_seq ?_
      refine c_region ?_
      refine o_pure (p_assign (v := .int .i64 0) rfl) rfl rfl rfl ?_
      refine o_nil ?_
      refine q_then ?_
      refine c_ret ?_
      have hr0 : (0 : Int) = (Rg.check l) := by
        first | exact Rg.chk2 (by assumption) | exact hI.bad (by omega) (by omega) (Rg.bad_of _ (by assumption)) | exact hI.low (by omega) (by omega) hfp (by omega) (by omega) (by omega) hlo.2 | exact hI.done (by omega) (by omega)
      refine q_end0 (v := .int .i64 0) (rt1 rfl (r_tmp rfl)) (i := 0) rfl ?_
      exact (by have hcc := congrArg (fun (y0 : Int) => (.int .i64 y0 : Value)) hr0; exact hcc)

set_option maxHeartbeats 8000000 in
set_option maxRecDepth 100000 in
theorem rfowner_ok (l : List DPoint) (al : Option Addr) (cl : Nat) (a : Int) (hy1 : 0 < l.length) : Fn0 Try.prog 20 [.slice al l.length cl, .int .i64 a] (fun w => Rd tPoint w al cl l) (.int .i64 (Rg.ownGo l a)) := by
  refine fn0 (nt := 28) (F0 := [(0, .slice al l.length cl), (1, .int .i64 a)]) Try.func20 rfl Try.ntmps20 rfl rfl (fun w0 hpre => ?_)
  have hl := hpre
  have hlhl := hl.2.1
  refine c_seq ?_
  refine c_region ?_
  refine o_pure (p_assign (v := .int .i64 0) rfl) rfl rfl rfl ?_
  refine o_nil ?_
  refine q_then ?_
  refine c_seq ?_
  refine c_seq ?_
  refine c_region ?_
  refine o_pure (p_assign (v := .int .i64 0) rfl) rfl rfl rfl ?_
  refine o_nil ?_
  refine q_then ?_
  refine c_block ?_
  refine c_loop (St := Nat)
    (fun i => [(0, .slice al l.length cl), (1, .int .i64 a), (5, .int .i64 (i : Int))])
    (fun i => [base w0])
    (fun i => Rg.OInv l a i)
    (fun i => l.length - i)
    0 ?_ (Sub.cons rfl (Sub.cons rfl (Sub.cons rfl (Sub.nil _)))) (fun _ hw => hw) ?_
  · exact Rg.OInv.start _ _
  rintro i hI K hK1
  have hle := hI.1
  show SC _ _ Try.prog 28 w0 _ _ [(0, .slice al l.length cl), (1, .int .i64 a), (5, .int .i64 (i : Int))] [base w0]
  refine c_seq ?_
  refine c_seq ?_
  refine c_region ?_
  refine o_pure (p_move (v := .int .i64 (i : Int)) rfl) rfl rfl rfl ?_
  refine o_pure (p_move (v := .slice al l.length cl) rfl) rfl rfl rfl ?_
  refine o_pure (p_len_slice (len := l.length) rfl rfl Try.underlying22) rfl rfl rfl ?_
  refine o_pure (p_lt (p := (i : Int)) (q := (l.length : Int)) rfl rfl) rfl rfl rfl ?_
  refine o_nil ?_
  refine q_then ?_
  refine c_cond (b := decide ((i : Int) < (l.length : Int))) rfl (fun hc2 => ?_) (fun hc2 => ?_)
  · simp only [decide_eq_true_eq] at hc2
    refine c_skip ?_
    refine q_then ?_
    refine c_seq ?_
    refine c_block ?_
    refine c_seq ?_
    refine c_region ?_
    refine o_pure (p_move (v := .slice al l.length cl) rfl) rfl rfl rfl ?_
    refine o_pure (p_move (v := .int .i64 (i : Int)) rfl) rfl rfl rfl ?_
    refine o_pure (p_indexAddr (L := l) (T := tPoint) (i := (i : Int)) rfl rfl (rd_base (i := 0) rfl hl) Try.underlying22 sz35 (by omega) (by omega)) rfl rfl rfl ?_
    refine o_pure (p_fieldAddrE rfl fo35_0) rfl rfl rfl ?_
    refine o_pure (p_loadF (i := i) (j := 0) (T := tPoint) (L := l) (v := .int .i64 ((l[i]).at_)) rfl (rd_base (i := 0) rfl hl) (by first | assumption | omega) sh3 rfl) rfl rfl rfl ?_
    refine o_pure (p_move (v := .int .i64 a) rfl) rfl rfl rfl ?_
    refine o_pure (p_ge (p := (l[i]).at_) (q := a) rfl rfl) rfl rfl rfl ?_
    refine o_nil ?_
    refine q_then ?_
    refine c_cond (b := decide (a ≤ (l[i]).at_)) rfl (fun hc3 => ?_) (fun hc3 => ?_)
    · simp only [decide_eq_true_eq] at hc3
      refine c_seq ?_
      refine c_region ?_
      refine o_pure (p_move (v := .slice al l.length cl) rfl) rfl rfl rfl ?_
      refine o_pure (p_move (v := .int .i64 (i : Int)) rfl) rfl rfl rfl ?_
      refine o_pure (p_indexAddr (L := l) (T := tPoint) (i := (i : Int)) rfl rfl (rd_base (i := 0) rfl hl) Try.underlying22 sz35 (by omega) (by omega)) rfl rfl rfl ?_
      refine o_pure (p_fieldAddrE rfl fo35_1) rfl rfl rfl ?_
      refine o_pure (p_loadF (i := i) (j := 1) (T := tPoint) (L := l) (v := .int .i64 ((l[i]).shard)) rfl (rd_base (i := 0) rfl hl) (by first | assumption | omega) sh3 rfl) rfl rfl rfl ?_
      refine o_pure (p_assign (v := .int .i64 ((l[i]).shard)) rfl) rfl rfl rfl ?_
      refine o_nil ?_
      refine q_then ?_
      refine c_ret ?_
      refine q_block_ret (q_then_ret (q_then_ret (q_block_ret (q_then_ret ?_))))
      have hr0 : ((l[i]).shard : Int) = (Rg.ownGo l a) := by
        first | exact hI.found (by omega) (by assumption) | exact hI.none (by omega) (by omega)
      refine q_end0 (v := .int .i64 ((l[i]).shard)) (rt1 rfl (r_tmp rfl)) (i := 0) rfl ?_
      exact (by have hcc := congrArg (fun (y0 : Int) => (.int .i64 y0 : Value)) hr0; exact hcc)
    · simp only [decide_eq_false_iff_not, Int.not_le] at hc3
      refine c_skip ?_
      refine q_block_normal (q_then ?_)
      refine c_region ?_
      refine o_pure (p_move (v := .int .i64 (i : Int)) rfl) rfl rfl rfl ?_
      refine o_pure (p_addb (p := (i : Int)) (q := 1) rfl rfl (by omega)) rfl rfl rfl ?_
      refine o_pure (p_assign (v := .int .i64 ((i : Int) + 1)) rfl) rfl rfl rfl ?_
      refine o_nil ?_
      refine q_round hK1 (i + 1) ?_ ?_ ?_ ?_
      · clear hK1
        exact hI.next (by omega) (by assumption)
      · (try dsimp only); omega
      · exact Sub.cons rfl (Sub.cons rfl (Sub.cons rfl (Sub.nil _)))
      · exact fun _ hw => HeapIs.pick hw [0] (by decide) rfl
  · simp only [decide_eq_false_iff_not, Int.not_lt] at hc2
    refine c_exit ?_
    refine q_then_exit (q_then_exit (q_block_exit (q_then ?_)))
    refine c_seq ?_
    refine c_region ?_
    refine o_pure (p_move (v := .slice al l.length cl) rfl) rfl rfl rfl ?_
    refine o_pure (p_indexAddr (L := l) (T := tPoint) (i := 0) rfl rfl (rd_base (i := 0) rfl hl) Try.underlying22 sz35 (by omega) (by omega)) rfl rfl rfl ?_
    refine o_pure (p_fieldAddrE rfl fo35_1) rfl rfl rfl ?_
    refine o_pure (p_loadF (i := 0) (j := 1) (T := tPoint) (L := l) (v := .int .i64 ((l[0]).shard)) rfl (rd_base (i := 0) rfl hl) (by first | assumption | omega) sh3 rfl) rfl rfl rfl ?_
    refine o_pure (p_assign (v := .int .i64 ((l[0]).shard)) rfl) rfl rfl rfl ?_
    refine o_nil ?_
    refine q_then ?_
    refine c_ret ?_
    have hr0 : ((l[0]).shard : Int) = (Rg.ownGo l a) := by
      first | exact hI.found (by omega) (by assumption) | exact hI.none (by omega) (by omega)
    refine q_end0 (v := .int .i64 ((l[0]).shard)) (rt1 rfl (r_tmp rfl)) (i := 0) rfl ?_
    exact (by have hcc := congrArg (fun (y0 : Int) => (.int .i64 y0 : Value)) hr0; exact hcc)

set_option maxHeartbeats 8000000 in
set_option maxRecDepth 100000 in
theorem rfshare_ok (l : List DPoint) (al : Option Addr) (cl : Nat) (s : Int) (hy1 : Rg.Ok l) : Fn0 Try.prog 22 [.slice al l.length cl, .int .i64 s] (fun w => Rd tPoint w al cl l) (.int .i64 (Rg.share l s)) := by
  refine fn0 (nt := 53) (F0 := [(0, .slice al l.length cl), (1, .int .i64 s)]) Try.func22 rfl Try.ntmps22 rfl rfl (fun w0 hpre => ?_)
  have hl := hpre
  have hlhl := hl.2.1
  refine c_seq ?_
  refine c_region ?_
  refine o_pure (p_assign (v := .int .i64 0) rfl) rfl rfl rfl ?_
  refine o_nil ?_
  refine q_then ?_
  refine c_seq ?_
  refine c_region ?_
  refine o_pure (p_assign (v := .int .i64 0) rfl) rfl rfl rfl ?_
  refine o_nil ?_
  refine q_then ?_
  refine c_seq ?_
  refine c_seq ?_
  refine c_region ?_
  refine o_pure (p_assign (v := .int .i64 0) rfl) rfl rfl rfl ?_
  refine o_nil ?_
  refine q_then ?_
  refine c_block ?_
  refine c_loop (St := Int × Nat)
    (fun ⟨n, i⟩ => [(0, .slice al l.length cl), (1, .int .i64 s), (5, .int .i64 n), (6, .int .i64 (i : Int))])
    (fun ⟨n, i⟩ => [base w0])
    (fun ⟨n, i⟩ => Rg.HInv l s n i)
    (fun ⟨n, i⟩ => l.length - i)
    (0, 0) ?_ (Sub.cons rfl (Sub.cons rfl (Sub.cons rfl (Sub.cons rfl (Sub.nil _))))) (fun _ hw => hw) ?_
  · exact Rg.HInv.start _ _
  rintro ⟨n, i⟩ hI K hK1
  have hle := hI.1
  have hnb : 0 ≤ n ∧ n ≤ 65536 := by rw [hI.2]; exact Rg.take_bd hy1.fine s hI.1
  show SC _ _ Try.prog 53 w0 _ _ [(0, .slice al l.length cl), (1, .int .i64 s), (5, .int .i64 n), (6, .int .i64 (i : Int))] [base w0]
  refine c_seq ?_
  refine c_seq ?_
  refine c_region ?_
  refine o_pure (p_move (v := .int .i64 (i : Int)) rfl) rfl rfl rfl ?_
  refine o_pure (p_move (v := .slice al l.length cl) rfl) rfl rfl rfl ?_
  refine o_pure (p_len_slice (len := l.length) rfl rfl Try.underlying22) rfl rfl rfl ?_
  refine o_pure (p_lt (p := (i : Int)) (q := (l.length : Int)) rfl rfl) rfl rfl rfl ?_
  refine o_nil ?_
  refine q_then ?_
  refine c_cond (b := decide ((i : Int) < (l.length : Int))) rfl (fun hc2 => ?_) (fun hc2 => ?_)
  · simp only [decide_eq_true_eq] at hc2
    refine c_skip ?_
    refine q_then ?_
    refine c_seq ?_
    refine c_block ?_
    refine c_seq ?_
    refine c_seq ?_
    refine c_region ?_
    refine o_pure (p_move (v := .slice al l.length cl) rfl) rfl rfl rfl ?_
    refine o_pure (p_move (v := .int .i64 (i : Int)) rfl) rfl rfl rfl ?_
    refine o_pure (p_indexAddr (L := l) (T := tPoint) (i := (i : Int)) rfl rfl (rd_base (i := 0) rfl hl) Try.underlying22 sz35 (by omega) (by omega)) rfl rfl rfl ?_
    refine o_pure (p_fieldAddrE rfl fo35_1) rfl rfl rfl ?_
    refine o_pure (p_loadF (i := i) (j := 1) (T := tPoint) (L := l) (v := .int .i64 ((l[i]).shard)) rfl (rd_base (i := 0) rfl hl) (by first | assumption | omega) sh3 rfl) rfl rfl rfl ?_
    refine o_pure (p_move (v := .int .i64 s) rfl) rfl rfl rfl ?_
    refine o_pure (p_ne (p := (l[i]).shard) (q := s) rfl rfl) rfl rfl rfl ?_
    refine o_nil ?_
    refine q_then ?_
    refine c_cond (b := ((l[i]).shard != s)) rfl (fun hc3 => ?_) (fun hc3 => ?_)
    · simp only [bne_iff_ne, ne_eq] at hc3
      refine c_exit ?_
      refine q_then_exit (q_block_exit (q_then ?_))
      refine c_region ?_
      refine o_pure (p_move (v := .int .i64 (i : Int)) rfl) rfl rfl rfl ?_
      refine o_pure (p_addb (p := (i : Int)) (q := 1) rfl rfl (by first | omega | (simp only [hlx]; omega))) rfl rfl rfl ?_
      refine o_pure (p_assign (v := .int .i64 ((i : Int) + 1)) rfl) rfl rfl rfl ?_
      refine o_nil ?_
      refine q_round hK1 (n, i + 1) ?_ ?_ ?_ ?_
      · clear hK1
        first | exact hI.skip (by omega) (by assumption) | exact Rg.HInv.first0 hI (by omega) hsh (by omega) (by simp only [hlx]) | exact Rg.HInv.then0 hI (by omega) hsh (by omega) (by omega) (by omega)
      · (try dsimp only); omega
      · exact Sub.cons rfl (Sub.cons rfl (Sub.cons rfl (Sub.cons rfl (Sub.nil _))))
      · exact fun _ hw => HeapIs.pick hw [0] (by decide) rfl
    · simp only [bne_eq_false_iff_eq] at hc3
      have hsh := hc3
      have hpt := Rg.okPoint_iff.1 (hy1.fine.point _ (List.getElem_mem (show i < l.length by omega)))
      have hpe := Rg.okPoint_iff.1 (hy1.fine.point _ (List.getElem_mem (show l.length - 1 < l.length by omega)))
      have hpb := Rg.okPoint_iff.1 (hy1.fine.point _ (List.getElem_mem (show 0 < l.length by omega)))
      have hlx : ((l.length : Int) - 1).toNat = l.length - 1 := by omega
      refine c_skip ?_
      refine q_then ?_
      refine c_seq ?_
      refine c_region ?_
      refine o_pure (p_move (v := .int .i64 (i : Int)) rfl) rfl rfl rfl ?_
      refine o_pure (p_eq (p := (i : Int)) (q := 0) rfl rfl) rfl rfl rfl ?_
      refine o_nil ?_
      refine q_then ?_
      refine c_cond (b := ((i : Int) == 0)) rfl (fun hc4 => ?_) (fun hc4 => ?_)
      · simp only [beq_iff_eq] at hc4
        refine c_draw hmix (by kernel_rfl) ?_
        refine w_pure (p_move (v := .int .i64 n) rfl) rfl rfl rfl ?_
        refine w_pure (p_move (v := .slice al l.length cl) rfl) rfl rfl rfl ?_
        refine w_pure (p_indexAddr (L := l) (T := tPoint) (i := 0) rfl rfl (rd_base (i := 0) rfl hl) Try.underlying22 sz35 (by omega) (by omega)) rfl rfl rfl ?_
        refine w_pure (p_fieldAddrE rfl fo35_0) rfl rfl rfl ?_
        refine w_pure (p_loadF (i := 0) (j := 0) (T := tPoint) (L := l) (v := .int .i64 ((l[0]).at_)) rfl (rd_base (i := 0) rfl hl) (by first | assumption | omega) sh3 rfl) rfl rfl rfl ?_
        refine w_pure (p_addb (p := (l[0]).at_) (q := 1) rfl rfl (by first | omega | (simp only [hlx]; omega))) rfl rfl rfl ?_
        refine w_pure (p_addb (p := ((l[0]).at_ + 1)) (q := 65535) rfl rfl (by first | omega | (simp only [hlx]; omega))) rfl rfl rfl ?_
        refine w_pure (p_move (v := .slice al l.length cl) rfl) rfl rfl rfl ?_
        refine w_pure (p_move (v := .slice al l.length cl) rfl) rfl rfl rfl ?_
        refine w_pure (p_len_slice (len := l.length) rfl rfl Try.underlying22) rfl rfl rfl ?_
        refine w_pure (p_subb (p := (l.length : Int)) (q := 1) rfl rfl (by first | omega | (simp only [hlx]; omega))) rfl rfl rfl ?_
        refine w_pure (p_indexAddr (L := l) (T := tPoint) (i := ((l.length : Int) - 1)) rfl rfl (rd_base (i := 0) rfl hl) Try.underlying22 sz35 (by omega) (by omega)) rfl rfl rfl ?_
        refine w_pure (p_fieldAddrE rfl fo35_0) rfl rfl rfl ?_
        refine w_pure (p_loadF (i := ((l.length : Int) - 1).toNat) (j := 0) (T := tPoint) (L := l) (v := .int .i64 ((l[((l.length : Int) - 1).toNat]).at_)) rfl (rd_base (i := 0) rfl hl) (by first | assumption | omega) sh3 rfl) rfl rfl rfl ?_
        refine w_pure (p_subb (p := (((l[0]).at_ + 1) + 65535)) (q := (l[((l.length : Int) - 1).toNat]).at_) rfl rfl (by first | omega | (simp only [hlx]; omega))) rfl rfl rfl ?_
        refine w_pure (p_addb (p := n) (q := ((((l[0]).at_ + 1) + 65535) - (l[((l.length : Int) - 1).toNat]).at_)) rfl rfl (by first | omega | (simp only [hlx]; omega))) rfl rfl rfl ?_
        refine w_pure (p_assign (v := .int .i64 (n + ((((l[0]).at_ + 1) + 65535) - (l[((l.length : Int) - 1).toNat]).at_))) rfl) rfl rfl rfl ?_
        refine w_nil ?_
        refine q_block_normal (q_then ?_)
        refine c_region ?_
        refine o_pure (p_move (v := .int .i64 (i : Int)) rfl) rfl rfl rfl ?_
        refine o_pure (p_addb (p := (i : Int)) (q := 1) rfl rfl (by first | omega | (simp only [hlx]; omega))) rfl rfl rfl ?_
        refine o_pure (p_assign (v := .int .i64 ((i : Int) + 1)) rfl) rfl rfl rfl ?_
        refine o_nil ?_
        refine q_round hK1 ((n + ((((l[0]).at_ + 1) + 65535) - (l[((l.length : Int) - 1).toNat]).at_)), i + 1) ?_ ?_ ?_ ?_
        · clear hK1
          first | exact hI.skip (by omega) (by assumption) | exact Rg.HInv.first0 hI (by omega) hsh (by omega) (by simp only [hlx]) | exact Rg.HInv.then0 hI (by omega) hsh (by omega) (by omega) (by omega)
        · (try dsimp only); omega
        · exact Sub.cons rfl (Sub.cons rfl (Sub.cons rfl (Sub.cons rfl (Sub.nil _))))
        · exact fun _ hw => HeapIs.pick hw [0] (by decide) rfl
      · simp only [beq_eq_false_iff_ne, ne_eq] at hc4
        have hpp := Rg.okPoint_iff.1 (hy1.fine.point _ (List.getElem_mem (show ((i : Int) - 1).toNat < l.length by omega)))
        refine c_draw hmix (by kernel_rfl) ?_
        refine w_pure (p_move (v := .int .i64 n) rfl) rfl rfl rfl ?_
        refine w_pure (p_move (v := .slice al l.length cl) rfl) rfl rfl rfl ?_
        refine w_pure (p_move (v := .int .i64 (i : Int)) rfl) rfl rfl rfl ?_
        refine w_pure (p_indexAddr (L := l) (T := tPoint) (i := (i : Int)) rfl rfl (rd_base (i := 0) rfl hl) Try.underlying22 sz35 (by omega) (by omega)) rfl rfl rfl ?_
        refine w_pure (p_fieldAddrE rfl fo35_0) rfl rfl rfl ?_
        refine w_pure (p_loadF (i := i) (j := 0) (T := tPoint) (L := l) (v := .int .i64 ((l[i]).at_)) rfl (rd_base (i := 0) rfl hl) (by first | assumption | omega) sh3 rfl) rfl rfl rfl ?_
        refine w_pure (p_move (v := .slice al l.length cl) rfl) rfl rfl rfl ?_
        refine w_pure (p_move (v := .int .i64 (i : Int)) rfl) rfl rfl rfl ?_
        refine w_pure (p_subb (p := (i : Int)) (q := 1) rfl rfl (by first | omega | (simp only [hlx]; omega))) rfl rfl rfl ?_
        refine w_pure (p_indexAddr (L := l) (T := tPoint) (i := ((i : Int) - 1)) rfl rfl (rd_base (i := 0) rfl hl) Try.underlying22 sz35 (by omega) (by omega)) rfl rfl rfl ?_
        refine w_pure (p_fieldAddrE rfl fo35_0) rfl rfl rfl ?_
        refine w_pure (p_loadF (i := ((i : Int) - 1).toNat) (j := 0) (T := tPoint) (L := l) (v := .int .i64 ((l[((i : Int) - 1).toNat]).at_)) rfl (rd_base (i := 0) rfl hl) (by first | assumption | omega) sh3 rfl) rfl rfl rfl ?_
        refine w_pure (p_subb (p := (l[i]).at_) (q := (l[((i : Int) - 1).toNat]).at_) rfl rfl (by first | omega | (simp only [hlx]; omega))) rfl rfl rfl ?_
        refine w_pure (p_addb (p := n) (q := ((l[i]).at_ - (l[((i : Int) - 1).toNat]).at_)) rfl rfl (by first | omega | (simp only [hlx]; omega))) rfl rfl rfl ?_
        refine w_pure (p_assign (v := .int .i64 (n + ((l[i]).at_ - (l[((i : Int) - 1).toNat]).at_))) rfl) rfl rfl rfl ?_
        refine w_nil ?_
        refine q_block_normal (q_then ?_)
        refine c_region ?_
        refine o_pure (p_move (v := .int .i64 (i : Int)) rfl) rfl rfl rfl ?_
        refine o_pure (p_addb (p := (i : Int)) (q := 1) rfl rfl (by first | omega | (simp only [hlx]; omega))) rfl rfl rfl ?_
        refine o_pure (p_assign (v := .int .i64 ((i : Int) + 1)) rfl) rfl rfl rfl ?_
        refine o_nil ?_
        refine q_round hK1 ((n + ((l[i]).at_ - (l[((i : Int) - 1).toNat]).at_)), i + 1) ?_ ?_ ?_ ?_
        · clear hK1
          first | exact hI.skip (by omega) (by assumption) | exact Rg.HInv.first0 hI (by omega) hsh (by omega) (by simp only [hlx]) | exact Rg.HInv.then0 hI (by omega) hsh (by omega) (by omega) (by omega)
        · (try dsimp only); omega
        · exact Sub.cons rfl (Sub.cons rfl (Sub.cons rfl (Sub.cons rfl (Sub.nil _))))
        · exact fun _ hw => HeapIs.pick hw [0] (by decide) rfl
  · simp only [decide_eq_false_iff_not, Int.not_lt] at hc2
    refine c_exit ?_
    refine q_then_exit (q_then_exit (q_block_exit (q_then ?_)))
    refine c_seq ?_
    refine c_region ?_
    refine o_pure (p_move (v := .int .i64 n) rfl) rfl rfl rfl ?_
    refine o_pure (p_assign (v := .int .i64 n) rfl) rfl rfl rfl ?_
    refine o_nil ?_
    refine q_then ?_
    refine c_ret ?_
    have hr0 : (n : Int) = (Rg.share l s) := by
      exact hI.done (by omega)
    refine q_end0 (v := .int .i64 n) (rt1 rfl (r_tmp rfl)) (i := 0) rfl ?_
    exact (by have hcc := congrArg (fun (y0 : Int) => (.int .i64 y0 : Value)) hr0; exact hcc)
end Go.Proofs.Ytgjdmnljnimamaa
