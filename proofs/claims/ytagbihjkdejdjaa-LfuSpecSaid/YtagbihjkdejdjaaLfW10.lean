/- The walks, printed by a program from the translation and a specification. -/
import Derived.Test.YtagbihjkdejdjaaLfF
import Derived.Test.YtagbihjkdejdjaaLfLaw5
namespace Go.Proofs.Ytagbihjkdejdjaa
open Go.Sx Go.RowKit
set_option maxHeartbeats 8000000 in
set_option maxRecDepth 100000 in
theorem rfleast_ok (l : List DUse) (al : Option Addr) (cl : Nat) (hy1 : 0 < l.length) : Fn0 Try.prog 23 [.slice al l.length cl] (fun w => Rd tUse w al cl l) (.int .i64 ((l.getD (Lfu.least l) default).key)) := by
  refine fn0 (nt := 44) (F0 := [(0, .slice al l.length cl)]) Try.func23 rfl Try.ntmps23 rfl rfl (fun w0 hpre => ?_)
  have hl := hpre
  have hlhl := hl.2.1
  refine c_seq ?_
  refine c_region ?_
  refine o_pure (p_assign (v := .int .i64 0) rfl) rfl rfl rfl ?_
  refine o_nil ?_
  refine q_then ?_
  refine c_seq ?_
  refine c_seq ?_
  refine c_region ?_
  refine o_pure (p_move (v := .slice al l.length cl) rfl) rfl rfl rfl ?_
  refine o_pure (p_len_slice (len := l.length) rfl rfl Try.underlying22) rfl rfl rfl ?_
  refine o_pure (p_subb (p := (l.length : Int)) (q := 1) rfl rfl (by omega)) rfl rfl rfl ?_
  refine o_pure (p_assign (v := .int .i64 ((l.length : Int) - 1)) rfl) rfl rfl rfl ?_
  refine o_nil ?_
  refine q_then ?_
  refine c_block ?_
  refine c_loop (St := Int)
    (fun i => [(0, .slice al l.length cl), (3, .int .i64 i)])
    (fun i => [base w0])
    (fun i => Lfu.EInv l i)
    (fun i => i.toNat)
    ((l.length : Int) - 1) ?_ (Sub.cons rfl (Sub.cons rfl (Sub.nil _))) (fun _ hw => hw) ?_
  · exact Lfu.EInv.start (by omega)
  rintro i hI K hK1
  have hib := hI.bd
  have hE := hI
  show SC _ _ Try.prog 44 w0 _ _ [(0, .slice al l.length cl), (3, .int .i64 i)] [base w0]
  refine c_seq ?_
  refine c_seq ?_
  refine c_region ?_
  refine o_pure (p_move (v := .int .i64 i) rfl) rfl rfl rfl ?_
  refine o_pure (p_gt (p := i) (q := 0) rfl rfl) rfl rfl rfl ?_
  refine o_nil ?_
  refine q_then ?_
  refine c_cond (b := decide (0 < i)) rfl (fun hc2 => ?_) (fun hc2 => ?_)
  · simp only [decide_eq_true_eq] at hc2
    refine c_skip ?_
    refine q_then ?_
    refine c_seq ?_
    refine c_block ?_
    refine c_seq ?_
    refine c_region ?_
    refine o_pure (p_assign (v := .bool false) rfl) rfl rfl rfl ?_
    refine o_nil ?_
    refine q_then ?_
    refine c_seq ?_
    refine c_seq ?_
    refine c_region ?_
    refine o_pure (p_assign (v := .int .i64 0) rfl) rfl rfl rfl ?_
    refine o_nil ?_
    refine q_then ?_
    refine c_block ?_
    refine c_loop (St := Bool × Nat)
      (fun ⟨less_, k⟩ => [(0, .slice al l.length cl), (3, .int .i64 i), (4, .bool less_), (5, .int .i64 (k : Int))])
      (fun ⟨less_, k⟩ => [base w0])
      (fun ⟨less_, k⟩ => Lfu.DInv l i less_ k)
      (fun ⟨less_, k⟩ => l.length - k)
      (false, 0) ?_ (Sub.cons rfl (Sub.cons rfl (Sub.cons rfl (Sub.cons rfl (Sub.nil _))))) (fun _ hw => hw) ?_
    · exact Lfu.DInv.start l i
    rintro ⟨less_, k⟩ hI K hK3
    have hkb := hI.le
    show SC _ _ Try.prog 44 w0 _ _ [(0, .slice al l.length cl), (3, .int .i64 i), (4, .bool less_), (5, .int .i64 (k : Int))] [base w0]
    refine c_seq ?_
    refine c_seq ?_
    refine c_region ?_
    refine o_pure (p_move (v := .int .i64 (k : Int)) rfl) rfl rfl rfl ?_
    refine o_pure (p_move (v := .slice al l.length cl) rfl) rfl rfl rfl ?_
    refine o_pure (p_len_slice (len := l.length) rfl rfl Try.underlying22) rfl rfl rfl ?_
    refine o_pure (p_lt (p := (k : Int)) (q := (l.length : Int)) rfl rfl) rfl rfl rfl ?_
    refine o_nil ?_
    refine q_then ?_
    refine c_cond (b := decide ((k : Int) < (l.length : Int))) rfl (fun hc4 => ?_) (fun hc4 => ?_)
    · simp only [decide_eq_true_eq] at hc4
      refine c_skip ?_
      refine q_then ?_
      refine c_seq ?_
      refine c_block ?_
      refine c_draw hmix (by kernel_rfl) ?_
      refine w_pure (p_move (v := .bool less_) rfl) rfl rfl rfl ?_
      refine w_pure (p_move (v := .bool less_) rfl) rfl rfl rfl ?_
      refine w_or (p := 32) 12 (decide ((l[k]).count < (l[i.toNat]).count)) ?_ ?_ ?_
      · intro hb5 hk
        skip
        refine w_unguard 20 rfl rfl ?_
        refine w_pure (p_move (v := .slice al l.length cl) rfl) rfl rfl rfl ?_
        refine w_unguard 20 rfl rfl ?_
        refine w_pure (p_move (v := .int .i64 (k : Int)) rfl) rfl rfl rfl ?_
        refine w_unguard 20 rfl rfl ?_
        refine w_pure (p_indexAddr (L := l) (T := tUse) (i := (k : Int)) rfl rfl (rd_base (i := 0) rfl hl) Try.underlying22 sz42 (by omega) (by omega)) rfl rfl rfl ?_
        refine w_unguard 20 rfl rfl ?_
        refine w_pure (p_fieldAddrE rfl fo42_1) rfl rfl rfl ?_
        refine w_unguard 20 rfl rfl ?_
        refine w_pure (p_loadF (i := k) (j := 1) (T := tUse) (L := l) (v := .int .i64 ((l[k]).count)) rfl (rd_base (i := 0) rfl hl) (by first | assumption | omega) sh3 rfl) rfl rfl rfl ?_
        refine w_unguard 20 rfl rfl ?_
        refine w_pure (p_move (v := .slice al l.length cl) rfl) rfl rfl rfl ?_
        refine w_unguard 20 rfl rfl ?_
        refine w_pure (p_move (v := .int .i64 i) rfl) rfl rfl rfl ?_
        refine w_unguard 20 rfl rfl ?_
        refine w_pure (p_indexAddr (L := l) (T := tUse) (i := i) rfl rfl (rd_base (i := 0) rfl hl) Try.underlying22 sz42 (by omega) (by omega)) rfl rfl rfl ?_
        refine w_unguard 20 rfl rfl ?_
        refine w_pure (p_fieldAddrE rfl fo42_1) rfl rfl rfl ?_
        refine w_unguard 20 rfl rfl ?_
        refine w_pure (p_loadF (i := i.toNat) (j := 1) (T := tUse) (L := l) (v := .int .i64 ((l[i.toNat]).count)) rfl (rd_base (i := 0) rfl hl) (by first | assumption | omega) sh3 rfl) rfl rfl rfl ?_
        refine w_unguard 20 rfl rfl ?_
        refine w_pure (p_lt (p := (l[k]).count) (q := (l[i.toNat]).count) rfl rfl) rfl rfl rfl ?_
        refine w_pure (p_pick_false (v := .bool (decide ((l[k]).count < (l[i.toNat]).count))) rfl rfl) rfl rfl rfl ?_
        exact w_sub (Sub.cons rfl (Sub.skip rfl (Sub.skip rfl (Sub.skip rfl (Sub.skip rfl (Sub.skip rfl (Sub.skip rfl (Sub.skip rfl (Sub.skip rfl (Sub.skip rfl (Sub.skip rfl (Sub.skip rfl (Sub.skip rfl (Sub.skip rfl (Sub.refl _))))))))))))))) hk
      · intro hb5 hk
        refine w_guard_no rfl 20 rfl rfl rfl rfl rfl ?_
        refine w_guard_no rfl 20 rfl rfl rfl rfl rfl ?_
        refine w_guard_no rfl 20 rfl rfl rfl rfl rfl ?_
        refine w_guard_no rfl 20 rfl rfl rfl rfl rfl ?_
        refine w_guard_no rfl 20 rfl rfl rfl rfl rfl ?_
        refine w_guard_no rfl 20 rfl rfl rfl rfl rfl ?_
        refine w_guard_no rfl 20 rfl rfl rfl rfl rfl ?_
        refine w_guard_no rfl 20 rfl rfl rfl rfl rfl ?_
        refine w_guard_no rfl 20 rfl rfl rfl rfl rfl ?_
        refine w_guard_no rfl 20 rfl rfl rfl rfl rfl ?_
        refine w_guard_no rfl 20 rfl rfl rfl rfl rfl ?_
        refine w_pure (p_pick_true (u := .bool true) rfl rfl) rfl rfl rfl ?_
        exact w_sub (Sub.cons rfl (Sub.skip rfl (Sub.skip rfl (Sub.skip rfl (Sub.skip rfl (Sub.skip rfl (Sub.skip rfl (Sub.skip rfl (Sub.skip rfl (Sub.skip rfl (Sub.skip rfl (Sub.skip rfl (Sub.skip rfl (Sub.skip rfl (Sub.refl _))))))))))))))) hk
      refine w_pure (p_assign (v := .bool (less_ || decide ((l[k]).count < (l[i.toNat]).count))) rfl) rfl rfl rfl ?_
      refine w_nil ?_
      refine q_block_normal (q_then ?_)
      refine c_region ?_
      refine o_pure (p_move (v := .int .i64 (k : Int)) rfl) rfl rfl rfl ?_
      refine o_pure (p_addb (p := (k : Int)) (q := 1) rfl rfl (by omega)) rfl rfl rfl ?_
      refine o_pure (p_assign (v := .int .i64 ((k : Int) + 1)) rfl) rfl rfl rfl ?_
      refine o_nil ?_
      refine q_round hK3 ((less_ || decide ((l[k]).count < (l[i.toNat]).count)), k + 1) ?_ ?_ ?_ ?_
      · clear hK3
        exact hI.next (by omega) (by omega)
      · (try dsimp only); omega
      · exact Sub.cons rfl (Sub.cons rfl (Sub.cons rfl (Sub.cons rfl (Sub.nil _))))
      · exact fun _ hw => HeapIs.pick hw [0] (by decide) rfl
    · simp only [decide_eq_false_iff_not, Int.not_lt] at hc4
      refine c_exit ?_
      refine q_then_exit (q_then_exit (q_block_exit (q_then ?_)))
      refine c_seq ?_
      refine c_region ?_
      refine o_pure (p_move (v := .bool less_) rfl) rfl rfl rfl ?_
      refine o_pure (p_not (b := less_) rfl) rfl rfl rfl ?_
      refine o_nil ?_
      refine q_then ?_
      refine c_cond (b := (!less_)) rfl (fun hc6 => ?_) (fun hc6 => ?_)
      · simp only [Bool.not_eq_true'] at hc6
        refine c_seq ?_
        refine c_region ?_
        refine o_pure (p_move (v := .slice al l.length cl) rfl) rfl rfl rfl ?_
        refine o_pure (p_move (v := .int .i64 i) rfl) rfl rfl rfl ?_
        refine o_pure (p_indexAddr (L := l) (T := tUse) (i := i) rfl rfl (rd_base (i := 0) rfl hl) Try.underlying22 sz42 (by omega) (by omega)) rfl rfl rfl ?_
        refine o_pure (p_fieldAddrE rfl fo42_0) rfl rfl rfl ?_
        refine o_pure (p_loadF (i := i.toNat) (j := 0) (T := tUse) (L := l) (v := .int .i64 ((l[i.toNat]).key)) rfl (rd_base (i := 0) rfl hl) (by first | assumption | omega) sh3 rfl) rfl rfl rfl ?_
        refine o_pure (p_assign (v := .int .i64 ((l[i.toNat]).key)) rfl) rfl rfl rfl ?_
        refine o_nil ?_
        refine q_then ?_
        refine c_ret ?_
        refine q_block_ret (q_then_ret (q_then_ret (q_block_ret (q_then_ret ?_))))
        have hr0 : ((l[i.toNat]).key : Int) = ((l.getD (Lfu.least l) default).key) := by
          first | exact hE.last hI (by omega) (by assumption) (by omega) | exact hI.zero (by omega) (by omega)
        refine q_end0 (v := .int .i64 ((l[i.toNat]).key)) (rt1 rfl (r_tmp rfl)) (i := 0) rfl ?_
        exact (by have hcc := congrArg (fun (y0 : Int) => (.int .i64 y0 : Value)) hr0; exact hcc)
      · simp only [Bool.not_eq_false'] at hc6
        refine c_skip ?_
        refine q_block_normal (q_then ?_)
        refine c_region ?_
        refine o_pure (p_move (v := .int .i64 i) rfl) rfl rfl rfl ?_
        refine o_pure (p_subb (p := i) (q := 1) rfl rfl (by omega)) rfl rfl rfl ?_
        refine o_pure (p_assign (v := .int .i64 (i - 1)) rfl) rfl rfl rfl ?_
        refine o_nil ?_
        refine q_round hK1 (i - 1) ?_ ?_ ?_ ?_
        · clear hK1
          exact hE.next hI (by omega) (by assumption) (by omega)
        · (try dsimp only); omega
        · exact Sub.cons rfl (Sub.cons rfl (Sub.nil _))
        · exact fun _ hw => HeapIs.pick hw [0] (by decide) rfl
  · simp only [decide_eq_false_iff_not, Int.not_lt] at hc2
    refine c_exit ?_
    refine q_then_exit (q_then_exit (q_block_exit (q_then ?_)))
    refine c_seq ?_
    refine c_region ?_
    refine o_pure (p_move (v := .slice al l.length cl) rfl) rfl rfl rfl ?_
    refine o_pure (p_indexAddr (L := l) (T := tUse) (i := 0) rfl rfl (rd_base (i := 0) rfl hl) Try.underlying22 sz42 (by omega) (by omega)) rfl rfl rfl ?_
    refine o_pure (p_fieldAddrE rfl fo42_0) rfl rfl rfl ?_
    refine o_pure (p_loadF (i := 0) (j := 0) (T := tUse) (L := l) (v := .int .i64 ((l[0]).key)) rfl (rd_base (i := 0) rfl hl) (by first | assumption | omega) sh3 rfl) rfl rfl rfl ?_
    refine o_pure (p_assign (v := .int .i64 ((l[0]).key)) rfl) rfl rfl rfl ?_
    refine o_nil ?_
    refine q_then ?_
    refine c_ret ?_
    have hr0 : ((l[0]).key : Int) = ((l.getD (Lfu.least l) default).key) := by
      first | exact hE.last hI (by omega) (by assumption) (by omega) | exact hI.zero (by omega) (by omega)
    refine q_end0 (v := .int .i64 ((l[0]).key)) (rt1 rfl (r_tmp rfl)) (i := 0) rfl ?_
    exact (by have hcc := congrArg (fun (y0 : Int) => (.int .i64 y0 : Value)) hr0; exact hcc)
end Go.Proofs.Ytagbihjkdejdjaa
