/- The walks, printed by a program from the translation and a specification. -/
import Derived.Test.YtgkihbbeimhmbaaDoorTrF
import Derived.Test.YtgkihbbeimhmbaaDoorTrLaw7
import Derived.Test.YtgkihbbeimhmbaaDoorTrK
namespace Go.Proofs.YtgkihbbeimhmbaaDoor
open Go.Sx Go.RowKit
set_option maxHeartbeats 8000000 in
set_option maxRecDepth 100000 in
theorem key_ok (n : Int) : Fn0 Tryd.prog 27 [.int .i64 n] (fun _ => True) (.bool (Lru.okKey n)) := by
  refine fn0 (nt := 9) (F0 := [(0, .int .i64 n)]) Tryd.func27 rfl Tryd.ntmps27 rfl rfl (fun w0 hpre => ?_)
  refine c_seq ?_
  refine c_region ?_
  refine o_pure (p_assign (v := .bool false) rfl) rfl rfl rfl ?_
  refine o_nil ?_
  refine q_then ?_
  refine c_seq ?_
  refine c_region ?_
  refine o_pure (p_move (v := .int .i64 n) rfl) rfl rfl rfl ?_
  refine o_pure (p_ge (p := n) (q := 0) rfl rfl) rfl rfl rfl ?_
  refine o_pure (p_move (v := .bool (decide (0 ≤ n))) rfl) rfl rfl rfl ?_
  refine o_and (p := 8) 3 (decide (n ≤ 1048576)) ?_ ?_ ?_
  · intro hb1 hk
    simp only [decide_eq_true_eq] at hb1
    refine o_unguard 5 rfl rfl ?_
    refine o_pure (p_move (v := .int .i64 n) rfl) rfl rfl rfl ?_
    refine o_unguard 5 rfl rfl ?_
    refine o_pure (p_le (p := n) (q := 1048576) rfl rfl) rfl rfl rfl ?_
    refine o_pure (p_pick_true (u := .bool (decide (n ≤ 1048576))) rfl rfl) rfl rfl rfl ?_
    exact o_sub (Sub.cons rfl (Sub.skip rfl (Sub.skip rfl (Sub.skip rfl (Sub.skip rfl (Sub.refl _)))))) hk
  · intro hb1 hk
    refine o_guard_no rfl 5 rfl rfl rfl rfl rfl ?_
    refine o_guard_no rfl 5 rfl rfl rfl rfl rfl ?_
    refine o_pure (p_pick_false (v := .bool false) rfl rfl) rfl rfl rfl ?_
    exact o_sub (Sub.cons rfl (Sub.skip rfl (Sub.skip rfl (Sub.skip rfl (Sub.skip rfl (Sub.refl _)))))) hk
  refine o_pure (p_assign (v := .bool (decide (0 ≤ n) && decide (n ≤ 1048576))) rfl) rfl rfl rfl ?_
  refine o_nil ?_
  refine q_then ?_
  refine c_ret ?_
  have hr0 : ((decide (0 ≤ n) && decide (n ≤ 1048576)) : Bool) = (Lru.okKey n) := by
    rfl
  refine q_end0 (v := .bool (decide (0 ≤ n) && decide (n ≤ 1048576))) (rt1 rfl (r_tmp rfl)) (i := 0) rfl ?_
  exact (by have hcc := congrArg (fun (y0 : Bool) => (.bool y0 : Value)) hr0; exact hcc)

set_option maxHeartbeats 8000000 in
set_option maxRecDepth 100000 in
theorem checkTrace1_ok (key : Int) : Fn0 Tryd.prog 26 [.int .i64 key] (fun _ => True) (.bool (!Lru.okKey key)) := by
  refine fn0 (nt := 6) (F0 := [(0, .int .i64 key)]) Tryd.func26 rfl Tryd.ntmps26 rfl rfl (fun w0 hpre => ?_)
  refine c_seq ?_
  refine c_region ?_
  refine o_pure (p_assign (v := .bool false) rfl) rfl rfl rfl ?_
  refine o_nil ?_
  refine q_then ?_
  refine c_seq ?_
  refine c_region ?_
  refine o_pure (p_move (v := .int .i64 key) rfl) rfl rfl rfl ?_
  refine o_call0 (v := .bool (Lru.okKey key)) rfl (key_ok key) hf27 (fun _ _ => trivial) rfl ?_
  refine o_pure (p_not (b := (Lru.okKey key)) rfl) rfl rfl rfl ?_
  refine o_pure (p_assign (v := .bool (!(Lru.okKey key))) rfl) rfl rfl rfl ?_
  refine o_nil ?_
  refine q_then ?_
  refine c_ret ?_
  have hr0 : ((!(Lru.okKey key)) : Bool) = (!Lru.okKey key) := by
    rfl
  refine q_end0 (v := .bool (!(Lru.okKey key))) (rt1 rfl (r_tmp rfl)) (i := 0) rfl ?_
  exact (by have hcc := congrArg (fun (y0 : Bool) => (.bool y0 : Value)) hr0; exact hcc)

set_option maxHeartbeats 8000000 in
set_option maxRecDepth 100000 in
theorem indexFunc_Int_ok (l : List Int) (al : Option Addr) (cl : Nat) (gf : FuncId) (kf : List Value) (f : Int → Bool) (Pf : World → Prop) (stf : ∀ w w', Below w.heap.size w w' → Pf w → Pf w') (okf : ∀ (x : Int), Fn0 Tryd.prog gf (.int .i64 x :: kf) Pf (.bool (f x))) (hpf : HasFn Tryd.prog gf) : Fn0 Tryd.prog 35 [.slice al l.length cl, .func (.func gf) #[] kf.toArray] (fun w => Rd tInt w al cl l ∧ Pf w) (.int .i64 (idxF f l)) := by
  refine fn0 (nt := 19) (F0 := [(0, .slice al l.length cl), (1, .func (.func gf) #[] kf.toArray)]) Tryd.func35 rfl Tryd.ntmps35 rfl rfl (fun w0 hpre => ?_)
  obtain ⟨hl, hf⟩ := hpre
  have hlhl := hl.2.1
  refine c_seq ?_
  refine c_region ?_
  refine o_pure (p_assign (v := .int .i64 0) rfl) rfl rfl rfl ?_
  refine o_nil ?_
  refine q_then ?_
  refine c_seq ?_
  refine c_seq ?_
  refine c_region ?_
  refine o_pure (p_move (v := .slice al l.length cl) rfl) rfl rfl rfl ?_
  refine o_pure (p_len_slice (len := l.length) rfl rfl Tryd.underlying22) rfl rfl rfl ?_
  refine o_pure (p_move (v := .int .i64 0) rfl) rfl rfl rfl ?_
  refine o_nil ?_
  refine q_then ?_
  refine c_block ?_
  refine c_loop (St := Nat)
    (fun k => [(0, .slice al l.length cl), (1, .func (.func gf) #[] kf.toArray), (7, .int .i64 (l.length : Int)), (8, .int .i64 (k : Int))])
    (fun k => [base w0])
    (fun k => k ≤ l.length ∧ ∀ j (h : j < l.length), j < k → f l[j] = false)
    (fun k => l.length - k)
    0 ?_ (Sub.cons rfl (Sub.cons rfl (Sub.cons rfl (Sub.cons rfl (Sub.nil _))))) (fun _ hw => hw) ?_
  · exact ⟨Nat.zero_le _, fun j _ h => absurd h (by omega)⟩
  rintro k hI K hK1
  obtain ⟨hI1, hI2⟩ := hI
  show SC _ _ Tryd.prog 19 w0 _ _ [(0, .slice al l.length cl), (1, .func (.func gf) #[] kf.toArray), (7, .int .i64 (l.length : Int)), (8, .int .i64 (k : Int))] [base w0]
  refine c_seq ?_
  refine c_region ?_
  refine o_pure (p_lt (p := (k : Int)) (q := (l.length : Int)) rfl rfl) rfl rfl rfl ?_
  refine o_nil ?_
  refine q_then ?_
  refine c_seq ?_
  refine c_cond (b := decide ((k : Int) < (l.length : Int))) rfl (fun hc2 => ?_) (fun hc2 => ?_)
  · simp only [decide_eq_true_eq] at hc2
    refine c_skip ?_
    refine q_then ?_
    refine c_seq ?_
    refine c_block ?_
    refine c_seq ?_
    refine c_region ?_
    refine o_pure (p_move (v := .int .i64 (k : Int)) rfl) rfl rfl rfl ?_
    refine o_pure (p_assign (v := .int .i64 (k : Int)) rfl) rfl rfl rfl ?_
    refine o_nil ?_
    refine q_then ?_
    refine c_seq ?_
    refine c_region ?_
    refine o_pure (p_move (v := .func (.func gf) #[] kf.toArray) rfl) rfl rfl rfl ?_
    refine o_pure (p_move (v := .slice al l.length cl) rfl) rfl rfl rfl ?_
    refine o_pure (p_move (v := .int .i64 (k : Int)) rfl) rfl rfl rfl ?_
    refine o_pure (p_indexAddr (L := l) (T := tInt) (i := (k : Int)) rfl rfl (rd_base (i := 0) rfl hl) Tryd.underlying22 sz3 (by omega) (by omega)) rfl rfl rfl ?_
    refine o_pure (p_loadE1 (i := k) (T := tInt) (L := l) (v := .int .i64 (l[k])) rfl (rd_base (i := 0) rfl hl) (by first | assumption | omega) sh3 rfl) rfl rfl rfl ?_
    refine o_call0V (vs := [.int .i64 (l[k])]) (caps := kf) (v := .bool (f (l[k]))) rfl rfl (okf (l[k])) hpf (pre_base (i := 0) rfl stf hf) rfl ?_
    refine o_nil ?_
    refine q_then ?_
    refine c_cond (b := (f (l[k]))) rfl (fun hc3 => ?_) (fun hc3 => ?_)
    · skip
      refine c_seq ?_
      refine c_region ?_
      refine o_pure (p_move (v := .int .i64 (k : Int)) rfl) rfl rfl rfl ?_
      refine o_pure (p_assign (v := .int .i64 (k : Int)) rfl) rfl rfl rfl ?_
      refine o_nil ?_
      refine q_then ?_
      refine c_ret ?_
      refine q_block_ret (q_then_ret (q_then_ret (q_block_ret (q_then_ret ?_))))
      have hr0 : ((k : Int) : Int) = (idxF f l) := by
        first | exact idxF_found (by omega) (by assumption) hI2 | exact idxF_none (fun j h => hI2 j h (by omega))
      refine q_end0 (v := .int .i64 (k : Int)) (rt1 rfl (r_tmp rfl)) (i := 0) rfl ?_
      exact (by have hcc := congrArg (fun (y0 : Int) => (.int .i64 y0 : Value)) hr0; exact hcc)
    · skip
      refine c_skip ?_
      refine q_block_normal (q_then ?_)
      refine c_region ?_
      refine o_pure (p_addb (p := (k : Int)) (q := 1) rfl rfl (by omega)) rfl rfl rfl ?_
      refine o_pure (p_move (v := .int .i64 ((k : Int) + 1)) rfl) rfl rfl rfl ?_
      refine o_nil ?_
      refine q_round hK1 (k + 1) ?_ ?_ ?_ ?_
      · clear hK1
        refine ⟨by omega, fun j h h2 => ?_⟩
        by_cases e : j = k
        · subst e; assumption
        · exact hI2 j h (by omega)
      · (try dsimp only); omega
      · exact Sub.cons rfl (Sub.cons rfl (Sub.cons rfl (Sub.cons rfl (Sub.nil _))))
      · exact fun _ hw => HeapIs.pick hw [0] (by decide) rfl
  · simp only [decide_eq_false_iff_not, Int.not_lt] at hc2
    refine c_exit ?_
    refine q_then_exit (q_then_exit (q_block_exit (q_then ?_)))
    refine c_seq ?_
    refine c_region ?_
    refine o_pure (p_assign (v := .int .i64 (-1)) rfl) rfl rfl rfl ?_
    refine o_nil ?_
    refine q_then ?_
    refine c_ret ?_
    have hr0 : ((-1) : Int) = (idxF f l) := by
      first | exact idxF_found (by omega) (by assumption) hI2 | exact idxF_none (fun j h => hI2 j h (by omega))
    refine q_end0 (v := .int .i64 (-1)) (rt1 rfl (r_tmp rfl)) (i := 0) rfl ?_
    exact (by have hcc := congrArg (fun (y0 : Int) => (.int .i64 y0 : Value)) hr0; exact hcc)

set_option maxHeartbeats 8000000 in
set_option maxRecDepth 100000 in
theorem containsFunc_Int_ok (l : List Int) (al : Option Addr) (cl : Nat) (gf : FuncId) (kf : List Value) (f : Int → Bool) (Pf : World → Prop) (stf : ∀ w w', Below w.heap.size w w' → Pf w → Pf w') (okf : ∀ (x : Int), Fn0 Tryd.prog gf (.int .i64 x :: kf) Pf (.bool (f x))) (hpf : HasFn Tryd.prog gf) : Fn0 Tryd.prog 25 [.slice al l.length cl, .func (.func gf) #[] kf.toArray] (fun w => Rd tInt w al cl l ∧ Pf w) (.bool (l.any f)) := by
  refine fn0 (nt := 9) (F0 := [(0, .slice al l.length cl), (1, .func (.func gf) #[] kf.toArray)]) Tryd.func25 rfl Tryd.ntmps25 rfl rfl (fun w0 hpre => ?_)
  obtain ⟨hl, hf⟩ := hpre
  have hlhl := hl.2.1
  refine c_seq ?_
  refine c_region ?_
  refine o_pure (p_assign (v := .bool false) rfl) rfl rfl rfl ?_
  refine o_nil ?_
  refine q_then ?_
  refine c_seq ?_
  refine c_region ?_
  refine o_pure (p_move (v := .slice al l.length cl) rfl) rfl rfl rfl ?_
  refine o_pure (p_move (v := .func (.func gf) #[] kf.toArray) rfl) rfl rfl rfl ?_
  refine o_call0 (v := .int .i64 (idxF f l)) rfl (indexFunc_Int_ok l al cl gf kf f Pf stf okf hpf) hf35 (fun w hw => ⟨(rd_base (i := 0) rfl hl) w hw, pre_base (i := 0) rfl stf hf w hw⟩) rfl ?_
  refine o_pure (p_ge (p := (idxF f l)) (q := 0) rfl rfl) rfl rfl rfl ?_
  refine o_pure (p_assign (v := .bool (decide (0 ≤ (idxF f l)))) rfl) rfl rfl rfl ?_
  refine o_nil ?_
  refine q_then ?_
  refine c_ret ?_
  have hr0 : (decide (0 ≤ (idxF f l)) : Bool) = (l.any f) := by
    exact (any_idxF f l).symm
  refine q_end0 (v := .bool (decide (0 ≤ (idxF f l)))) (rt1 rfl (r_tmp rfl)) (i := 0) rfl ?_
  exact (by have hcc := congrArg (fun (y0 : Bool) => (.bool y0 : Value)) hr0; exact hcc)

set_option maxHeartbeats 8000000 in
set_option maxRecDepth 100000 in
theorem checkTrace_ok (l : List Int) (al : Option Addr) (cl : Nat) : Fn0 Tryd.prog 15 [.slice al l.length cl] (fun w => Rd tInt w al cl l) (.int .i64 (Lru.trace l)) := by
  refine fn0 (nt := 10) (F0 := [(0, .slice al l.length cl)]) Tryd.func15 rfl Tryd.ntmps15 rfl rfl (fun w0 hpre => ?_)
  have hl := hpre
  have hlhl := hl.2.1
  refine c_seq ?_
  refine c_region ?_
  refine o_pure (p_assign (v := .int .i64 0) rfl) rfl rfl rfl ?_
  refine o_nil ?_
  refine q_then ?_
  refine c_seq ?_
  refine c_block ?_
  refine c_seq ?_
  refine c_region ?_
  refine o_pure (p_move (v := .slice al l.length cl) rfl) rfl rfl rfl ?_
  refine o_pure (p_len_slice (len := l.length) rfl rfl Tryd.underlying22) rfl rfl rfl ?_
  refine o_pure (p_gt (p := (l.length : Int)) (q := 200) rfl rfl) rfl rfl rfl ?_
  refine o_pure (p_assign (v := .bool (decide (200 < (l.length : Int)))) rfl) rfl rfl rfl ?_
  refine o_nil ?_
  refine q_then ?_
  refine c_cond (b := decide (200 < (l.length : Int))) rfl (fun hc1 => ?_) (fun hc1 => ?_)
  · simp only [decide_eq_true_eq] at hc1
    refine c_seq ?_
    refine c_region ?_
    refine o_pure (p_assign (v := .int .i64 2) rfl) rfl rfl rfl ?_
    refine o_nil ?_
    refine q_then ?_
    refine c_ret ?_
    refine q_block_ret (q_then_ret ?_)
    have hr0 : (2 : Int) = (Lru.trace l) := by
      first | exact (Lru.trace_many (by assumption)).symm | exact (Lru.trace_bad (by omega) (by assumption)).symm | exact (Lru.trace_fine (by omega) (by assumption)).symm
    refine q_end0 (v := .int .i64 2) (rt1 rfl (r_tmp rfl)) (i := 0) rfl ?_
    exact (by have hcc := congrArg (fun (y0 : Int) => (.int .i64 y0 : Value)) hr0; exact hcc)
  · simp only [decide_eq_false_iff_not, Int.not_lt] at hc1
    refine c_seq ?_
    refine c_region ?_
    refine o_pure (p_move (v := .slice al l.length cl) rfl) rfl rfl rfl ?_
    refine o_call0 (v := .bool (l.any (fun x : Int => (!Lru.okKey x)))) rfl (containsFunc_Int_ok l al cl 26 [] (fun x => (!Lru.okKey x)) (fun _ => True) (fun _ _ _ h => h) (fun x => checkTrace1_ok x) hf26) hf25 (fun w hw => ⟨(rd_base (i := 0) rfl hl) w hw, trivial⟩) rfl ?_
    refine o_pure (p_assign (v := .bool (l.any (fun x : Int => (!Lru.okKey x)))) rfl) rfl rfl rfl ?_
    refine o_nil ?_
    refine q_then ?_
    refine c_cond (b := (l.any (fun x : Int => (!Lru.okKey x)))) rfl (fun hc2 => ?_) (fun hc2 => ?_)
    · skip
      refine c_seq ?_
      refine c_region ?_
      refine o_pure (p_assign (v := .int .i64 3) rfl) rfl rfl rfl ?_
      refine o_nil ?_
      refine q_then ?_
      refine c_ret ?_
      refine q_block_ret (q_then_ret ?_)
      have hr0 : (3 : Int) = (Lru.trace l) := by
        first | exact (Lru.trace_many (by assumption)).symm | exact (Lru.trace_bad (by omega) (by assumption)).symm | exact (Lru.trace_fine (by omega) (by assumption)).symm
      refine q_end0 (v := .int .i64 3) (rt1 rfl (r_tmp rfl)) (i := 0) rfl ?_
      exact (by have hcc := congrArg (fun (y0 : Int) => (.int .i64 y0 : Value)) hr0; exact hcc)
    · skip
      refine c_skip ?_
      refine q_block_normal (q_then ?_)
      refine c_seq ?_
      refine c_region ?_
      refine o_pure (p_assign (v := .int .i64 0) rfl) rfl rfl rfl ?_
      refine o_nil ?_
      refine q_then ?_
      refine c_ret ?_
      have hr0 : (0 : Int) = (Lru.trace l) := by
        first | exact (Lru.trace_many (by assumption)).symm | exact (Lru.trace_bad (by omega) (by assumption)).symm | exact (Lru.trace_fine (by omega) (by assumption)).symm
      refine q_end0 (v := .int .i64 0) (rt1 rfl (r_tmp rfl)) (i := 0) rfl ?_
      exact (by have hcc := congrArg (fun (y0 : Int) => (.int .i64 y0 : Value)) hr0; exact hcc)

set_option maxHeartbeats 8000000 in
set_option maxRecDepth 100000 in
theorem trun_ok (l : List Int) (al : Option Addr) (cl : Nat) (by_ : Int) (hy1 : l ≠ [] ∧ (∀ k ∈ l, Lru.okKey k = true) ∧ (by_ = 0 ∨ by_ = 1)) : Fn0 Tryd.prog 16 [.slice al l.length cl, .int .i64 by_] (fun w => Rd tInt w al cl l) (.int .i64 (Trc.run by_ l : Int)) := by
  refine fn0 (nt := 27) (F0 := [(0, .slice al l.length cl), (1, .int .i64 by_)]) Tryd.func16 rfl Tryd.ntmps16 rfl rfl (fun w0 hpre => ?_)
  have hl := hpre
  have hlhl := hl.2.1
  refine c_seq ?_
  refine c_region ?_
  refine o_pure (p_assign (v := .int .i64 0) rfl) rfl rfl rfl ?_
  refine o_nil ?_
  refine q_then ?_
  refine c_seq ?_
  refine c_region ?_
  refine o_pure (p_assign (v := .int .i64 1) rfl) rfl rfl rfl ?_
  refine o_nil ?_
  refine q_then ?_
  refine c_seq ?_
  refine c_block ?_
  refine c_loop (St := Nat)
    (fun n => [(0, .slice al l.length cl), (1, .int .i64 by_), (5, .int .i64 (n : Int))])
    (fun n => [base w0])
    (fun n => Trc.RI l by_ n)
    (fun n => l.length - n)
    1 ?_ (Sub.cons rfl (Sub.cons rfl (Sub.cons rfl (Sub.nil _)))) (fun _ hw => hw) ?_
  · exact Trc.RI.start hy1.1 _
  rintro n hI K hK1
  have hn1 := hI.pos
  have hn2 := hI.le
  have hkb := Trc.key_bd (l := l) hy1.2.1 ((n : Int) - 1).toNat
  show SC _ _ Tryd.prog 27 w0 _ _ [(0, .slice al l.length cl), (1, .int .i64 by_), (5, .int .i64 (n : Int))] [base w0]
  refine c_seq ?_
  refine c_seq ?_
  refine c_draw hmix (by kernel_rfl) ?_
  refine w_pure (p_move (v := .int .i64 (n : Int)) rfl) rfl rfl rfl ?_
  refine w_pure (p_move (v := .slice al l.length cl) rfl) rfl rfl rfl ?_
  refine w_pure (p_len_slice (len := l.length) rfl rfl Tryd.underlying22) rfl rfl rfl ?_
  refine w_pure (p_lt (p := (n : Int)) (q := (l.length : Int)) rfl rfl) rfl rfl rfl ?_
  refine w_pure (p_move (v := .bool (decide ((n : Int) < (l.length : Int)))) rfl) rfl rfl rfl ?_
  refine w_and (p := 23) 13 ((l.getD n default) == ((l.getD (((n : Int) - 1).toNat) default) + by_)) ?_ ?_ ?_
  · intro hb2 hk
    simp only [decide_eq_true_eq] at hb2
    refine w_unguard 10 rfl rfl ?_
    refine w_pure (p_move (v := .slice al l.length cl) rfl) rfl rfl rfl ?_
    refine w_unguard 10 rfl rfl ?_
    refine w_pure (p_move (v := .int .i64 (n : Int)) rfl) rfl rfl rfl ?_
    refine w_unguard 10 rfl rfl ?_
    refine w_pure (p_indexAddr (L := l) (T := tInt) (i := (n : Int)) rfl rfl (rd_base (i := 0) rfl hl) Tryd.underlying22 sz3 (by omega) (by omega)) rfl rfl rfl ?_
    refine w_unguard 10 rfl rfl ?_
    refine w_pure (p_loadE1 (i := n) (T := tInt) (L := l) (v := .int .i64 (l.getD n default)) rfl (rd_base (i := 0) rfl hl) (by first | assumption | omega) sh3 (congrArg tInt.enc (getd_at (by first | assumption | omega) default))) rfl rfl rfl ?_
    refine w_unguard 10 rfl rfl ?_
    refine w_pure (p_move (v := .slice al l.length cl) rfl) rfl rfl rfl ?_
    refine w_unguard 10 rfl rfl ?_
    refine w_pure (p_move (v := .int .i64 (n : Int)) rfl) rfl rfl rfl ?_
    refine w_unguard 10 rfl rfl ?_
    refine w_pure (p_subb (p := (n : Int)) (q := 1) rfl rfl (by omega)) rfl rfl rfl ?_
    refine w_unguard 10 rfl rfl ?_
    refine w_pure (p_indexAddr (L := l) (T := tInt) (i := ((n : Int) - 1)) rfl rfl (rd_base (i := 0) rfl hl) Tryd.underlying22 sz3 (by omega) (by omega)) rfl rfl rfl ?_
    refine w_unguard 10 rfl rfl ?_
    refine w_pure (p_loadE1 (i := ((n : Int) - 1).toNat) (T := tInt) (L := l) (v := .int .i64 (l.getD (((n : Int) - 1).toNat) default)) rfl (rd_base (i := 0) rfl hl) (by first | assumption | omega) sh3 (congrArg tInt.enc (getd_at (by first | assumption | omega) default))) rfl rfl rfl ?_
    refine w_unguard 10 rfl rfl ?_
    refine w_pure (p_move (v := .int .i64 by_) rfl) rfl rfl rfl ?_
    refine w_unguard 10 rfl rfl ?_
    refine w_pure (p_addb (p := (l.getD (((n : Int) - 1).toNat) default)) (q := by_) rfl rfl (by omega)) rfl rfl rfl ?_
    refine w_unguard 10 rfl rfl ?_
    refine w_pure (p_eq (p := (l.getD n default)) (q := ((l.getD (((n : Int) - 1).toNat) default) + by_)) rfl rfl) rfl rfl rfl ?_
    refine w_pure (p_pick_true (u := .bool ((l.getD n default) == ((l.getD (((n : Int) - 1).toNat) default) + by_))) rfl rfl) rfl rfl rfl ?_
    exact w_sub (Sub.cons rfl (Sub.skip rfl (Sub.skip rfl (Sub.skip rfl (Sub.skip rfl (Sub.skip rfl (Sub.skip rfl (Sub.skip rfl (Sub.skip rfl (Sub.skip rfl (Sub.skip rfl (Sub.skip rfl (Sub.skip rfl (Sub.skip rfl (Sub.skip rfl (Sub.refl _)))))))))))))))) hk
  · intro hb2 hk
    refine w_guard_no rfl 10 rfl rfl rfl rfl rfl ?_
    refine w_guard_no rfl 10 rfl rfl rfl rfl rfl ?_
    refine w_guard_no rfl 10 rfl rfl rfl rfl rfl ?_
    refine w_guard_no rfl 10 rfl rfl rfl rfl rfl ?_
    refine w_guard_no rfl 10 rfl rfl rfl rfl rfl ?_
    refine w_guard_no rfl 10 rfl rfl rfl rfl rfl ?_
    refine w_guard_no rfl 10 rfl rfl rfl rfl rfl ?_
    refine w_guard_no rfl 10 rfl rfl rfl rfl rfl ?_
    refine w_guard_no rfl 10 rfl rfl rfl rfl rfl ?_
    refine w_guard_no rfl 10 rfl rfl rfl rfl rfl ?_
    refine w_guard_no rfl 10 rfl rfl rfl rfl rfl ?_
    refine w_guard_no rfl 10 rfl rfl rfl rfl rfl ?_
    refine w_pure (p_pick_false (v := .bool false) rfl rfl) rfl rfl rfl ?_
    exact w_sub (Sub.cons rfl (Sub.skip rfl (Sub.skip rfl (Sub.skip rfl (Sub.skip rfl (Sub.skip rfl (Sub.skip rfl (Sub.skip rfl (Sub.skip rfl (Sub.skip rfl (Sub.skip rfl (Sub.skip rfl (Sub.skip rfl (Sub.skip rfl (Sub.skip rfl (Sub.refl _)))))))))))))))) hk
  refine w_nil ?_
  refine q_then ?_
  refine c_cond (b := (decide ((n : Int) < (l.length : Int)) && ((l.getD n default) == ((l.getD (((n : Int) - 1).toNat) default) + by_)))) rfl (fun hc3 => ?_) (fun hc3 => ?_)
  · simp only [Bool.and_eq_true, decide_eq_true_eq, beq_iff_eq] at hc3
    have hst := hc3
    refine c_skip ?_
    refine q_then ?_
    refine c_block ?_
    refine c_region ?_
    refine o_pure (p_move (v := .int .i64 (n : Int)) rfl) rfl rfl rfl ?_
    refine o_pure (p_addb (p := (n : Int)) (q := 1) rfl rfl (by omega)) rfl rfl rfl ?_
    refine o_pure (p_assign (v := .int .i64 ((n : Int) + 1)) rfl) rfl rfl rfl ?_
    refine o_nil ?_
    refine q_block_normal ?_
    refine q_round hK1 (n + 1) ?_ ?_ ?_ ?_
    · clear hK1
      exact hI.next (by omega) hst.2
    · (try dsimp only); omega
    · exact Sub.cons rfl (Sub.cons rfl (Sub.cons rfl (Sub.nil _)))
    · exact fun _ hw => HeapIs.pick hw [0] (by decide) rfl
  · simp only [Bool.and_eq_false_iff, decide_eq_false_iff_not, Int.not_lt, beq_eq_false_iff_ne, ne_eq] at hc3
    have hst := hc3
    refine c_exit ?_
    refine q_then_exit (q_then_exit (q_block_exit (q_then ?_)))
    refine c_seq ?_
    refine c_region ?_
    refine o_pure (p_move (v := .int .i64 (n : Int)) rfl) rfl rfl rfl ?_
    refine o_pure (p_assign (v := .int .i64 (n : Int)) rfl) rfl rfl rfl ?_
    refine o_nil ?_
    refine q_then ?_
    refine c_ret ?_
    have hr0 : ((n : Int) : Int) = (Trc.run by_ l : Int) := by
      exact hI.done hy1.1 hst
    refine q_end0 (v := .int .i64 (n : Int)) (rt1 rfl (r_tmp rfl)) (i := 0) rfl ?_
    exact (by have hcc := congrArg (fun (y0 : Int) => (.int .i64 y0 : Value)) hr0; exact hcc)

set_option maxHeartbeats 8000000 in
set_option maxRecDepth 100000 in
theorem tnumber_ok (s : ByteArray) (hy1 : s.size ≤ 2000000000) : Fn0 Tryd.prog 34 [.string s] (fun _ => True) (.int .i64 (Trc.num s)) := by
  refine fn0 (nt := 33) (F0 := [(0, .string s)]) Tryd.func34 rfl Tryd.ntmps34 rfl rfl (fun w0 hpre => ?_)
  refine c_seq ?_
  refine c_region ?_
  refine o_pure (p_assign (v := .int .i64 0) rfl) rfl rfl rfl ?_
  refine o_nil ?_
  refine q_then ?_
  refine c_seq ?_
  refine c_seq ?_
  refine c_region ?_
  refine o_pure (p_move (v := .string s) rfl) rfl rfl rfl ?_
  refine o_pure (p_eqStr (s := s) (t := (ByteArray.mk #[])) rfl rfl) rfl rfl rfl ?_
  refine o_pure (p_move (v := .bool (decide (s = (ByteArray.mk #[])))) rfl) rfl rfl rfl ?_
  refine o_or (p := 11) 4 (decide (7 < (s.size : Int))) ?_ ?_ ?_
  · intro hb1 hk
    simp only [decide_eq_false_iff_not] at hb1
    refine o_unguard 7 rfl rfl ?_
    refine o_pure (p_move (v := .string s) rfl) rfl rfl rfl ?_
    refine o_unguard 7 rfl rfl ?_
    refine o_pure (p_len_string rfl rfl Tryd.underlying9) rfl rfl rfl ?_
    refine o_unguard 7 rfl rfl ?_
    refine o_pure (p_gt (p := (s.size : Int)) (q := 7) rfl rfl) rfl rfl rfl ?_
    refine o_pure (p_pick_false (v := .bool (decide (7 < (s.size : Int)))) rfl rfl) rfl rfl rfl ?_
    exact o_sub (Sub.cons rfl (Sub.skip rfl (Sub.skip rfl (Sub.skip rfl (Sub.skip rfl (Sub.skip rfl (Sub.refl _))))))) hk
  · intro hb1 hk
    refine o_guard_no rfl 7 rfl rfl rfl rfl rfl ?_
    refine o_guard_no rfl 7 rfl rfl rfl rfl rfl ?_
    refine o_guard_no rfl 7 rfl rfl rfl rfl rfl ?_
    refine o_pure (p_pick_true (u := .bool true) rfl rfl) rfl rfl rfl ?_
    exact o_sub (Sub.cons rfl (Sub.skip rfl (Sub.skip rfl (Sub.skip rfl (Sub.skip rfl (Sub.skip rfl (Sub.refl _))))))) hk
  refine o_pure (p_move (v := .bool (decide (s = (ByteArray.mk #[])) || decide (7 < (s.size : Int)))) rfl) rfl rfl rfl ?_
  refine o_or (p := 21) 9 (decide (1 < (s.size : Int)) && (((byteAt s 0).toNat : Int) == 48)) ?_ ?_ ?_
  · intro hb2 hk
    simp only [Bool.or_eq_false_iff, decide_eq_false_iff_not, Int.not_lt] at hb2
    refine o_unguard 12 rfl rfl ?_
    refine o_pure (p_move (v := .string s) rfl) rfl rfl rfl ?_
    refine o_unguard 12 rfl rfl ?_
    refine o_pure (p_len_string rfl rfl Tryd.underlying9) rfl rfl rfl ?_
    refine o_unguard 12 rfl rfl ?_
    refine o_pure (p_gt (p := (s.size : Int)) (q := 1) rfl rfl) rfl rfl rfl ?_
    refine o_unguard 12 rfl rfl ?_
    refine o_pure (p_move (v := .bool (decide (1 < (s.size : Int)))) rfl) rfl rfl rfl ?_
    refine o_and (p := 20) 4 (((byteAt s 0).toNat : Int) == 48) ?_ ?_ ?_
    · intro hb3 hk
      simp only [decide_eq_true_eq] at hb3
      refine o_unguard 16 rfl rfl ?_
      refine o_pure (p_move (v := .string s) rfl) rfl rfl rfl ?_
      refine o_unguard 16 rfl rfl ?_
      refine o_pure (p_indexStr (z := 0) (i := 0) rfl rfl Tryd.underlying9 rfl (by omega)) rfl rfl rfl ?_
      refine o_unguard 16 rfl rfl ?_
      refine o_pure (p_eq (p := ((byteAt s 0).toNat : Int)) (q := 48) rfl rfl) rfl rfl rfl ?_
      refine o_unguard 12 rfl rfl ?_
      refine o_pure (p_pick_true (u := .bool (((byteAt s 0).toNat : Int) == 48)) rfl rfl) rfl rfl rfl ?_
      exact o_sub (Sub.cons rfl (Sub.skip rfl (Sub.skip rfl (Sub.skip rfl (Sub.skip rfl (Sub.skip rfl (Sub.refl _))))))) hk
    · intro hb3 hk
      refine o_guard_no rfl 16 rfl rfl rfl rfl rfl ?_
      refine o_guard_no rfl 16 rfl rfl rfl rfl rfl ?_
      refine o_guard_no rfl 16 rfl rfl rfl rfl rfl ?_
      refine o_unguard 12 rfl rfl ?_
      refine o_pure (p_pick_false (v := .bool false) rfl rfl) rfl rfl rfl ?_
      exact o_sub (Sub.cons rfl (Sub.skip rfl (Sub.skip rfl (Sub.skip rfl (Sub.skip rfl (Sub.skip rfl (Sub.refl _))))))) hk
    refine o_pure (p_pick_false (v := .bool (decide (1 < (s.size : Int)) && (((byteAt s 0).toNat : Int) == 48))) rfl rfl) rfl rfl rfl ?_
    exact o_sub (Sub.cons rfl (Sub.skip rfl (Sub.skip rfl (Sub.skip rfl (Sub.skip rfl (Sub.skip rfl (Sub.skip rfl (Sub.refl _)))))))) hk
  · intro hb2 hk
    refine o_guard_no rfl 12 rfl rfl rfl rfl rfl ?_
    refine o_guard_no rfl 12 rfl rfl rfl rfl rfl ?_
    refine o_guard_no rfl 12 rfl rfl rfl rfl rfl ?_
    refine o_guard_no rfl 12 rfl rfl rfl rfl rfl ?_
    refine o_guard_no rfl 16 rfl rfl rfl rfl rfl ?_
    refine o_guard_no rfl 16 rfl rfl rfl rfl rfl ?_
    refine o_guard_no rfl 16 rfl rfl rfl rfl rfl ?_
    refine o_guard_no rfl 12 rfl rfl rfl rfl rfl ?_
    refine o_pure (p_pick_true (u := .bool true) rfl rfl) rfl rfl rfl ?_
    exact o_sub (Sub.cons rfl (Sub.skip rfl (Sub.skip rfl (Sub.skip rfl (Sub.skip rfl (Sub.skip rfl (Sub.skip rfl (Sub.skip rfl (Sub.skip rfl (Sub.skip rfl (Sub.skip rfl (Sub.refl _)))))))))))) hk
  refine o_pure (p_move (v := .bool ((decide (s = (ByteArray.mk #[])) || decide (7 < (s.size : Int))) || (decide (1 < (s.size : Int)) && (((byteAt s 0).toNat : Int) == 48)))) rfl) rfl rfl rfl ?_
  refine o_or (p := 26) 4 (!decide ((Trc.trimT s (ByteArray.mk #[48, 49, 50, 51, 52, 53, 54, 55, 56, 57])) = (ByteArray.mk #[]))) ?_ ?_ ?_
  · intro hb4 hk
    simp only [Bool.or_eq_false_iff, decide_eq_false_iff_not, Int.not_lt, Bool.and_eq_false_iff, beq_eq_false_iff_ne, ne_eq] at hb4
    refine o_unguard 22 rfl rfl ?_
    refine o_pure (p_move (v := .string s) rfl) rfl rfl rfl ?_
    refine o_unguard 22 rfl rfl ?_
    refine o_call0 (v := .string (Trc.trimT s (ByteArray.mk #[48, 49, 50, 51, 52, 53, 54, 55, 56, 57]))) rfl (ktrim_ok s (ByteArray.mk #[48, 49, 50, 51, 52, 53, 54, 55, 56, 57]) (by omega) (by decide)) hf46 (fun _ _ => trivial) rfl ?_
    refine o_unguard 22 rfl rfl ?_
    refine o_pure (p_neStr (s := (Trc.trimT s (ByteArray.mk #[48, 49, 50, 51, 52, 53, 54, 55, 56, 57]))) (t := (ByteArray.mk #[])) rfl rfl) rfl rfl rfl ?_
    refine o_pure (p_pick_false (v := .bool (!decide ((Trc.trimT s (ByteArray.mk #[48, 49, 50, 51, 52, 53, 54, 55, 56, 57])) = (ByteArray.mk #[])))) rfl rfl) rfl rfl rfl ?_
    exact o_sub (Sub.cons rfl (Sub.skip rfl (Sub.skip rfl (Sub.skip rfl (Sub.skip rfl (Sub.skip rfl (Sub.refl _))))))) hk
  · intro hb4 hk
    refine o_guard_no rfl 22 rfl rfl rfl rfl rfl ?_
    refine o_guard_no rfl 22 rfl rfl rfl rfl rfl ?_
    refine o_guard_no rfl 22 rfl rfl rfl rfl rfl ?_
    refine o_pure (p_pick_true (u := .bool true) rfl rfl) rfl rfl rfl ?_
    exact o_sub (Sub.cons rfl (Sub.skip rfl (Sub.skip rfl (Sub.skip rfl (Sub.skip rfl (Sub.skip rfl (Sub.refl _))))))) hk
  refine o_nil ?_
  refine q_then ?_
  refine c_cond (b := (((decide (s = (ByteArray.mk #[])) || decide (7 < (s.size : Int))) || (decide (1 < (s.size : Int)) && (((byteAt s 0).toNat : Int) == 48))) || (!decide ((Trc.trimT s (ByteArray.mk #[48, 49, 50, 51, 52, 53, 54, 55, 56, 57])) = (ByteArray.mk #[]))))) rfl (fun hc5 => ?_) (fun hc5 => ?_)
  · simp only [Bool.or_eq_true, decide_eq_true_eq, Bool.and_eq_true, beq_iff_eq, Bool.not_eq_true', decide_eq_false_iff_not] at hc5
    have hbd := hc5
    refine c_seq ?_
    refine c_region ?_
    refine o_pure (p_assign (v := .int .i64 (-1)) rfl) rfl rfl rfl ?_
    refine o_nil ?_
    refine q_then ?_
    refine c_ret ?_
    refine q_then_ret ?_
    have hr0 : ((-1) : Int) = (Trc.num s) := by
      first | rfl | exact Trc.num_bad hbd
    refine q_end0 (v := .int .i64 (-1)) (rt1 rfl (r_tmp rfl)) (i := 0) rfl ?_
    exact (by have hcc := congrArg (fun (y0 : Int) => (.int .i64 y0 : Value)) hr0; exact hcc)
  · simp only [Bool.or_eq_false_iff, decide_eq_false_iff_not, Int.not_lt, Bool.and_eq_false_iff, beq_eq_false_iff_ne, ne_eq, Bool.not_eq_false', decide_eq_true_eq] at hc5
    have hok := Trc.num_cond hc5
    refine c_skip ?_
    refine q_then ?_
    refine c_seq ?_
    refine c_region ?_
    refine o_pure (p_move (v := .string s) rfl) rfl rfl rfl ?_
    refine o_call0 (v := .tuple #[.int .i64 (Trc.num s), .nilIface]) rfl (katoi_ok s (by assumption)) hf47 (fun _ _ => trivial) rfl ?_
    refine o_pure (p_move (v := .tuple #[.int .i64 (Trc.num s), .nilIface]) rfl) rfl rfl rfl ?_
    refine o_pure (p_extract (vs := [.int .i64 (Trc.num s), .nilIface]) (v := .int .i64 (Trc.num s)) rfl rfl) rfl rfl rfl ?_
    refine o_pure (p_extract (vs := [.int .i64 (Trc.num s), .nilIface]) (v := .nilIface) rfl rfl) rfl rfl rfl ?_
    refine o_pure (p_assign (v := .int .i64 (Trc.num s)) rfl) rfl rfl rfl ?_
    refine o_pure (p_assign (v := .nilIface) rfl) rfl rfl rfl ?_
    refine o_nil ?_
    refine q_then ?_
    refine c_seq ?_
    refine c_region ?_
    refine o_pure (p_move (v := .int .i64 (Trc.num s)) rfl) rfl rfl rfl ?_
    refine o_pure (p_assign (v := .int .i64 (Trc.num s)) rfl) rfl rfl rfl ?_
    refine o_nil ?_
    refine q_then ?_
    refine c_ret ?_
    refine q_end0 (v := .int .i64 (Trc.num s)) (rt1 rfl (r_tmp rfl)) (i := 0) rfl ?_
    exact rfl

set_option maxHeartbeats 8000000 in
set_option maxRecDepth 100000 in
theorem tpiece_ok (s : ByteArray) (hy1 : s.size ≤ 2000) : Fn0 Tryd.prog 20 [.string s] (fun _ => True) (.tuple #[.int .i64 (Trc.pKey s), .int .i64 (Trc.pBy s), .int .i64 (Trc.pMany s), .int .i64 (Trc.pErr s)]) := by
  refine fn0 (nt := 77) (F0 := [(0, .string s)]) Tryd.func20 rfl Tryd.ntmps20 rfl rfl (fun w0 hpre => ?_)
  have hcut := Trc.cutI_lt s
  have hng := Trc.num_ge s
  have hnk := Trc.pk_ge s
  have hnm := Trc.pm_ge s
  refine c_seq ?_
  refine c_region ?_
  refine o_pure (p_assign (v := .int .i64 0) rfl) rfl rfl rfl ?_
  refine o_pure (p_assign (v := .int .i64 0) rfl) rfl rfl rfl ?_
  refine o_pure (p_assign (v := .int .i64 0) rfl) rfl rfl rfl ?_
  refine o_pure (p_assign (v := .int .i64 0) rfl) rfl rfl rfl ?_
  refine o_nil ?_
  refine q_then ?_
  refine c_seq ?_
  refine c_region ?_
  refine o_pure (p_move (v := .string s) rfl) rfl rfl rfl ?_
  refine o_call0 (v := .int .i64 (Trc.cutI s)) rfl (kindexAny_ok s (ByteArray.mk #[42, 45]) (by omega) (rfl)) hf33 (fun _ _ => trivial) rfl ?_
  refine o_pure (p_assign (v := .int .i64 (Trc.cutI s)) rfl) rfl rfl rfl ?_
  refine o_nil ?_
  refine q_then ?_
  refine c_seq ?_
  refine c_seq ?_
  refine c_region ?_
  refine o_pure (p_move (v := .int .i64 (Trc.cutI s)) rfl) rfl rfl rfl ?_
  refine o_pure (p_lt (p := (Trc.cutI s)) (q := 0) rfl rfl) rfl rfl rfl ?_
  refine o_nil ?_
  refine q_then ?_
  refine c_join (G := Int × Int)
    (fun ⟨key, many⟩ => [(0, .string s), (2, .int .i64 key), (3, .int .i64 0), (4, .int .i64 many), (6, .int .i64 (Trc.cutI s))])
    (fun ⟨key, many⟩ => [base w0])
    (fun ⟨key, many⟩ => key = Trc.pk s ∧ many = Trc.pm s)
    (fun K hK1 => ?_) ?_
  · refine c_cond (b := decide ((Trc.cutI s) < 0)) rfl (fun hc2 => ?_) (fun hc2 => ?_)
    · simp only [decide_eq_true_eq] at hc2
      refine c_region ?_
      refine o_pure (p_move (v := .string s) rfl) rfl rfl rfl ?_
      refine o_call0 (v := .int .i64 (Trc.num s)) rfl (tnumber_ok s (by first | assumption | omega | (rw [ByteArray.size_extract]; omega))) hf34 (fun _ _ => trivial) rfl ?_
      refine o_pure (p_assign (v := .int .i64 (Trc.num s)) rfl) rfl rfl rfl ?_
      refine o_pure (p_assign (v := .int .i64 1) rfl) rfl rfl rfl ?_
      refine o_nil ?_
      refine q_join hK1 ((Trc.num s), 1) ?_ (Sub.cons rfl (Sub.cons rfl (Sub.cons rfl (Sub.cons rfl (Sub.cons rfl (Sub.nil _)))))) (fun _ hw => HeapIs.pick hw [0] (by decide) rfl)
      clear hK1
      first | exact ⟨(if_pos (by assumption)).symm, (if_pos (by assumption)).symm⟩ | exact Trc.pk_cut (by assumption)
    · simp only [decide_eq_false_iff_not, Int.not_lt] at hc2
      refine c_draw hmix (by kernel_rfl) ?_
      refine w_pure (p_move (v := .string s) rfl) rfl rfl rfl ?_
      refine w_pure (p_move (v := .int .i64 (Trc.cutI s)) rfl) rfl rfl rfl ?_
      refine w_pure (p_sliceStrH (s := s) (h := (Trc.cutI s)) rfl rfl Tryd.underlying9 (by omega) (by omega)) rfl rfl rfl ?_
      refine w_call0 (v := .int .i64 (Trc.num (s.extract 0 ((Trc.cutI s).toNat)))) rfl (tnumber_ok (s.extract 0 ((Trc.cutI s).toNat)) (by first | assumption | omega | (rw [ByteArray.size_extract]; omega))) hf34 (fun _ _ => trivial) rfl ?_
      refine w_pure (p_move (v := .string s) rfl) rfl rfl rfl ?_
      refine w_pure (p_move (v := .int .i64 (Trc.cutI s)) rfl) rfl rfl rfl ?_
      refine w_pure (p_addb (p := (Trc.cutI s)) (q := 1) rfl rfl (by omega)) rfl rfl rfl ?_
      refine w_pure (p_sliceStrL (s := s) (l := ((Trc.cutI s) + 1)) rfl rfl Tryd.underlying9 (by omega) (by omega)) rfl rfl rfl ?_
      refine w_call0 (v := .int .i64 (Trc.num (s.extract (((Trc.cutI s) + 1).toNat) s.size))) rfl (tnumber_ok (s.extract (((Trc.cutI s) + 1).toNat) s.size) (by first | assumption | omega | (rw [ByteArray.size_extract]; omega))) hf34 (fun _ _ => trivial) rfl ?_
      refine w_pure (p_assign (v := .int .i64 (Trc.num (s.extract 0 ((Trc.cutI s).toNat)))) rfl) rfl rfl rfl ?_
      refine w_pure (p_assign (v := .int .i64 (Trc.num (s.extract (((Trc.cutI s) + 1).toNat) s.size))) rfl) rfl rfl rfl ?_
      refine w_nil ?_
      refine q_join hK1 ((Trc.num (s.extract 0 ((Trc.cutI s).toNat))), (Trc.num (s.extract (((Trc.cutI s) + 1).toNat) s.size))) ?_ (Sub.cons rfl (Sub.cons rfl (Sub.cons rfl (Sub.cons rfl (Sub.cons rfl (Sub.nil _)))))) (fun _ hw => HeapIs.pick hw [0] (by decide) rfl)
      clear hK1
      first | exact ⟨(if_pos (by assumption)).symm, (if_pos (by assumption)).symm⟩ | exact Trc.pk_cut (by assumption)
  rintro ⟨key, many⟩ ⟨hjk, hjm⟩
  show SQ _ 77 w0 _ _ [(0, .string s), (2, .int .i64 key), (3, .int .i64 0), (4, .int .i64 many), (6, .int .i64 (Trc.cutI s))] [base w0]
  refine q_then ?_
  refine c_seq ?_
  refine c_block ?_
  refine c_seq ?_
  refine c_region ?_
  refine o_pure (p_move (v := .int .i64 key) rfl) rfl rfl rfl ?_
  refine o_pure (p_lt (p := key) (q := 0) rfl rfl) rfl rfl rfl ?_
  refine o_pure (p_move (v := .bool (decide (key < 0))) rfl) rfl rfl rfl ?_
  refine o_or (p := 29) 3 (decide (many < 0)) ?_ ?_ ?_
  · intro hb3 hk
    simp only [decide_eq_false_iff_not, Int.not_lt] at hb3
    refine o_unguard 26 rfl rfl ?_
    refine o_pure (p_move (v := .int .i64 many) rfl) rfl rfl rfl ?_
    refine o_unguard 26 rfl rfl ?_
    refine o_pure (p_lt (p := many) (q := 0) rfl rfl) rfl rfl rfl ?_
    refine o_pure (p_pick_false (v := .bool (decide (many < 0))) rfl rfl) rfl rfl rfl ?_
    exact o_sub (Sub.cons rfl (Sub.skip rfl (Sub.skip rfl (Sub.skip rfl (Sub.skip rfl (Sub.refl _)))))) hk
  · intro hb3 hk
    refine o_guard_no rfl 26 rfl rfl rfl rfl rfl ?_
    refine o_guard_no rfl 26 rfl rfl rfl rfl rfl ?_
    refine o_pure (p_pick_true (u := .bool true) rfl rfl) rfl rfl rfl ?_
    exact o_sub (Sub.cons rfl (Sub.skip rfl (Sub.skip rfl (Sub.skip rfl (Sub.skip rfl (Sub.refl _)))))) hk
  refine o_pure (p_assign (v := .bool (decide (key < 0) || decide (many < 0))) rfl) rfl rfl rfl ?_
  refine o_nil ?_
  refine q_then ?_
  refine c_cond (b := (decide (key < 0) || decide (many < 0))) rfl (fun hc4 => ?_) (fun hc4 => ?_)
  · simp only [Bool.or_eq_true, decide_eq_true_eq] at hc4
    have hneg := hc4
    refine c_seq ?_
    refine c_region ?_
    refine o_pure (p_assign (v := .int .i64 0) rfl) rfl rfl rfl ?_
    refine o_pure (p_assign (v := .int .i64 0) rfl) rfl rfl rfl ?_
    refine o_pure (p_assign (v := .int .i64 0) rfl) rfl rfl rfl ?_
    refine o_pure (p_assign (v := .int .i64 1) rfl) rfl rfl rfl ?_
    refine o_nil ?_
    refine q_then ?_
    refine c_ret ?_
    refine q_block_ret (q_then_ret ?_)
    obtain ⟨r1, r2, r3, r4⟩ : _ ∧ _ ∧ _ ∧ _ := by first | exact Trc.piece_e1 hjk hjm hneg | exact Trc.piece_e2 hjk hjm hneg (hjb.symm.trans hbb) | exact Trc.piece_e3 hjk hjm hneg (hjb.symm.trans hbb) hda hok | exact Trc.piece_e4 hjk hjm hneg (hjb.symm.trans hbb) hda hok | exact Trc.piece_o1 hjk hjm hneg (hjb.symm.trans hbb) hda hok | exact Trc.piece_o2 hjk hjm hneg (hjb.symm.trans hbb) hda hok
    have hr0 : (0 : Int) = (Trc.pKey s) := by
      exact r1
    have hr1 : (0 : Int) = (Trc.pBy s) := by
      exact r2
    have hr2 : (0 : Int) = (Trc.pMany s) := by
      exact r3
    have hr3 : (1 : Int) = (Trc.pErr s) := by
      exact r4
    refine q_end0 (v := .tuple #[.int .i64 0, .int .i64 0, .int .i64 0, .int .i64 1]) (rt4 rfl (r_tmp rfl) (r_tmp rfl) (r_tmp rfl) (r_tmp rfl)) (i := 0) rfl ?_
    exact (by have hcc := congr (congr (congr (congrArg (fun (y0 : Int) (y1 : Int) (y2 : Int) (y3 : Int) => (.tuple #[.int .i64 y0, .int .i64 y1, .int .i64 y2, .int .i64 y3] : Value)) hr0) hr1) hr2) hr3; exact hcc)
  · simp only [Bool.or_eq_false_iff, decide_eq_false_iff_not, Int.not_lt] at hc4
    have hneg := hc4
    refine c_seq ?_
    refine c_seq ?_
    refine c_region ?_
    refine o_pure (p_move (v := .int .i64 (Trc.cutI s)) rfl) rfl rfl rfl ?_
    refine o_pure (p_ge (p := (Trc.cutI s)) (q := 0) rfl rfl) rfl rfl rfl ?_
    refine o_pure (p_move (v := .bool (decide (0 ≤ (Trc.cutI s)))) rfl) rfl rfl rfl ?_
    refine o_and (p := 38) 5 (((byteAt s ((Trc.cutI s).toNat)).toNat : Int) == 42) ?_ ?_ ?_
    · intro hb5 hk
      simp only [decide_eq_true_eq] at hb5
      refine o_unguard 33 rfl rfl ?_
      refine o_pure (p_move (v := .string s) rfl) rfl rfl rfl ?_
      refine o_unguard 33 rfl rfl ?_
      refine o_pure (p_move (v := .int .i64 (Trc.cutI s)) rfl) rfl rfl rfl ?_
      refine o_unguard 33 rfl rfl ?_
      refine o_pure (p_indexStr (z := (Trc.cutI s)) (i := (Trc.cutI s).toNat) rfl rfl Tryd.underlying9 (by omega) (by omega)) rfl rfl rfl ?_
      refine o_unguard 33 rfl rfl ?_
      refine o_pure (p_eq (p := ((byteAt s ((Trc.cutI s).toNat)).toNat : Int)) (q := 42) rfl rfl) rfl rfl rfl ?_
      refine o_pure (p_pick_true (u := .bool (((byteAt s ((Trc.cutI s).toNat)).toNat : Int) == 42)) rfl rfl) rfl rfl rfl ?_
      exact o_sub (Sub.cons rfl (Sub.skip rfl (Sub.skip rfl (Sub.skip rfl (Sub.skip rfl (Sub.skip rfl (Sub.skip rfl (Sub.refl _)))))))) hk
    · intro hb5 hk
      refine o_guard_no rfl 33 rfl rfl rfl rfl rfl ?_
      refine o_guard_no rfl 33 rfl rfl rfl rfl rfl ?_
      refine o_guard_no rfl 33 rfl rfl rfl rfl rfl ?_
      refine o_guard_no rfl 33 rfl rfl rfl rfl rfl ?_
      refine o_pure (p_pick_false (v := .bool false) rfl rfl) rfl rfl rfl ?_
      exact o_sub (Sub.cons rfl (Sub.skip rfl (Sub.skip rfl (Sub.skip rfl (Sub.skip rfl (Sub.skip rfl (Sub.skip rfl (Sub.refl _)))))))) hk
    refine o_pure (p_move (v := .bool (decide (0 ≤ (Trc.cutI s)) && (((byteAt s ((Trc.cutI s).toNat)).toNat : Int) == 42))) rfl) rfl rfl rfl ?_
    refine o_and (p := 42) 3 (decide (many < 2)) ?_ ?_ ?_
    · intro hb6 hk
      simp only [Bool.and_eq_true, decide_eq_true_eq, beq_iff_eq] at hb6
      refine o_unguard 39 rfl rfl ?_
      refine o_pure (p_move (v := .int .i64 many) rfl) rfl rfl rfl ?_
      refine o_unguard 39 rfl rfl ?_
      refine o_pure (p_lt (p := many) (q := 2) rfl rfl) rfl rfl rfl ?_
      refine o_pure (p_pick_true (u := .bool (decide (many < 2))) rfl rfl) rfl rfl rfl ?_
      exact o_sub (Sub.cons rfl (Sub.skip rfl (Sub.skip rfl (Sub.skip rfl (Sub.skip rfl (Sub.refl _)))))) hk
    · intro hb6 hk
      refine o_guard_no rfl 39 rfl rfl rfl rfl rfl ?_
      refine o_guard_no rfl 39 rfl rfl rfl rfl rfl ?_
      refine o_pure (p_pick_false (v := .bool false) rfl rfl) rfl rfl rfl ?_
      exact o_sub (Sub.cons rfl (Sub.skip rfl (Sub.skip rfl (Sub.skip rfl (Sub.skip rfl (Sub.refl _)))))) hk
    refine o_pure (p_assign (v := .bool ((decide (0 ≤ (Trc.cutI s)) && (((byteAt s ((Trc.cutI s).toNat)).toNat : Int) == 42)) && decide (many < 2))) rfl) rfl rfl rfl ?_
    refine o_nil ?_
    refine q_then ?_
    refine c_join (G := Bool)
      (fun bad => [(0, .string s), (2, .int .i64 key), (3, .int .i64 0), (4, .int .i64 many), (6, .int .i64 (Trc.cutI s)), (30, .bool bad)])
      (fun bad => [base w0])
      (fun bad => bad = decide (Trc.badForm s))
      (fun K hK7 => ?_) ?_
    · refine c_cond (b := ((decide (0 ≤ (Trc.cutI s)) && (((byteAt s ((Trc.cutI s).toNat)).toNat : Int) == 42)) && decide (many < 2))) rfl (fun hc8 => ?_) (fun hc8 => ?_)
      · simp only [Bool.and_eq_true, decide_eq_true_eq, beq_iff_eq] at hc8
        refine c_skip ?_
        refine q_join hK7 ((decide (0 ≤ (Trc.cutI s)) && (((byteAt s ((Trc.cutI s).toNat)).toNat : Int) == 42)) && decide (many < 2)) ?_ (Sub.cons rfl (Sub.cons rfl (Sub.cons rfl (Sub.cons rfl (Sub.cons rfl (Sub.cons rfl (Sub.nil _))))))) (fun _ hw => HeapIs.pick hw [0] (by decide) rfl)
        clear hK7
        first | exact Trc.bad_rest hjk hjm hst42 | exact Trc.bad_true hjk hjm (by assumption)
      · simp only [Bool.and_eq_false_iff, decide_eq_false_iff_not, Int.not_le, beq_eq_false_iff_ne, ne_eq, Int.not_lt] at hc8
        have hst42 := hc8
        refine c_region ?_
        refine o_pure (p_move (v := .int .i64 (Trc.cutI s)) rfl) rfl rfl rfl ?_
        refine o_pure (p_ge (p := (Trc.cutI s)) (q := 0) rfl rfl) rfl rfl rfl ?_
        refine o_pure (p_move (v := .bool (decide (0 ≤ (Trc.cutI s)))) rfl) rfl rfl rfl ?_
        refine o_and (p := 50) 5 (((byteAt s ((Trc.cutI s).toNat)).toNat : Int) == 45) ?_ ?_ ?_
        · intro hb9 hk
          simp only [decide_eq_true_eq] at hb9
          refine o_unguard 45 rfl rfl ?_
          refine o_pure (p_move (v := .string s) rfl) rfl rfl rfl ?_
          refine o_unguard 45 rfl rfl ?_
          refine o_pure (p_move (v := .int .i64 (Trc.cutI s)) rfl) rfl rfl rfl ?_
          refine o_unguard 45 rfl rfl ?_
          refine o_pure (p_indexStr (z := (Trc.cutI s)) (i := (Trc.cutI s).toNat) rfl rfl Tryd.underlying9 (by omega) (by omega)) rfl rfl rfl ?_
          refine o_unguard 45 rfl rfl ?_
          refine o_pure (p_eq (p := ((byteAt s ((Trc.cutI s).toNat)).toNat : Int)) (q := 45) rfl rfl) rfl rfl rfl ?_
          refine o_pure (p_pick_true (u := .bool (((byteAt s ((Trc.cutI s).toNat)).toNat : Int) == 45)) rfl rfl) rfl rfl rfl ?_
          exact o_sub (Sub.cons rfl (Sub.skip rfl (Sub.skip rfl (Sub.skip rfl (Sub.skip rfl (Sub.skip rfl (Sub.skip rfl (Sub.refl _)))))))) hk
        · intro hb9 hk
          refine o_guard_no rfl 45 rfl rfl rfl rfl rfl ?_
          refine o_guard_no rfl 45 rfl rfl rfl rfl rfl ?_
          refine o_guard_no rfl 45 rfl rfl rfl rfl rfl ?_
          refine o_guard_no rfl 45 rfl rfl rfl rfl rfl ?_
          refine o_pure (p_pick_false (v := .bool false) rfl rfl) rfl rfl rfl ?_
          exact o_sub (Sub.cons rfl (Sub.skip rfl (Sub.skip rfl (Sub.skip rfl (Sub.skip rfl (Sub.skip rfl (Sub.skip rfl (Sub.refl _)))))))) hk
        refine o_pure (p_move (v := .bool (decide (0 ≤ (Trc.cutI s)) && (((byteAt s ((Trc.cutI s).toNat)).toNat : Int) == 45))) rfl) rfl rfl rfl ?_
        refine o_and (p := 56) 5 (decide (many < (key + 2))) ?_ ?_ ?_
        · intro hb10 hk
          simp only [Bool.and_eq_true, decide_eq_true_eq, beq_iff_eq] at hb10
          refine o_unguard 51 rfl rfl ?_
          refine o_pure (p_move (v := .int .i64 many) rfl) rfl rfl rfl ?_
          refine o_unguard 51 rfl rfl ?_
          refine o_pure (p_move (v := .int .i64 key) rfl) rfl rfl rfl ?_
          refine o_unguard 51 rfl rfl ?_
          refine o_pure (p_addb (p := key) (q := 2) rfl rfl (by omega)) rfl rfl rfl ?_
          refine o_unguard 51 rfl rfl ?_
          refine o_pure (p_lt (p := many) (q := (key + 2)) rfl rfl) rfl rfl rfl ?_
          refine o_pure (p_pick_true (u := .bool (decide (many < (key + 2)))) rfl rfl) rfl rfl rfl ?_
          exact o_sub (Sub.cons rfl (Sub.skip rfl (Sub.skip rfl (Sub.skip rfl (Sub.skip rfl (Sub.skip rfl (Sub.skip rfl (Sub.refl _)))))))) hk
        · intro hb10 hk
          refine o_guard_no rfl 51 rfl rfl rfl rfl rfl ?_
          refine o_guard_no rfl 51 rfl rfl rfl rfl rfl ?_
          refine o_guard_no rfl 51 rfl rfl rfl rfl rfl ?_
          refine o_guard_no rfl 51 rfl rfl rfl rfl rfl ?_
          refine o_pure (p_pick_false (v := .bool false) rfl rfl) rfl rfl rfl ?_
          exact o_sub (Sub.cons rfl (Sub.skip rfl (Sub.skip rfl (Sub.skip rfl (Sub.skip rfl (Sub.skip rfl (Sub.skip rfl (Sub.refl _)))))))) hk
        refine o_pure (p_assign (v := .bool ((decide (0 ≤ (Trc.cutI s)) && (((byteAt s ((Trc.cutI s).toNat)).toNat : Int) == 45)) && decide (many < (key + 2)))) rfl) rfl rfl rfl ?_
        refine o_nil ?_
        refine q_join hK7 ((decide (0 ≤ (Trc.cutI s)) && (((byteAt s ((Trc.cutI s).toNat)).toNat : Int) == 45)) && decide (many < (key + 2))) ?_ (Sub.cons rfl (Sub.cons rfl (Sub.cons rfl (Sub.cons rfl (Sub.cons rfl (Sub.cons rfl (Sub.nil _))))))) (fun _ hw => HeapIs.pick hw [0] (by decide) rfl)
        clear hK7
        first | exact Trc.bad_rest hjk hjm hst42 | exact Trc.bad_true hjk hjm (by assumption)
    rintro bad hjb
    show SQ _ 77 w0 _ _ [(0, .string s), (2, .int .i64 key), (3, .int .i64 0), (4, .int .i64 many), (6, .int .i64 (Trc.cutI s)), (30, .bool bad)] [base w0]
    refine q_then ?_
    refine c_cond (b := bad) rfl (fun hc11 => ?_) (fun hc11 => ?_)
    · skip
      have hbb := hc11
      refine c_seq ?_
      refine c_region ?_
      refine o_pure (p_assign (v := .int .i64 0) rfl) rfl rfl rfl ?_
      refine o_pure (p_assign (v := .int .i64 0) rfl) rfl rfl rfl ?_
      refine o_pure (p_assign (v := .int .i64 0) rfl) rfl rfl rfl ?_
      refine o_pure (p_assign (v := .int .i64 1) rfl) rfl rfl rfl ?_
      refine o_nil ?_
      refine q_then ?_
      refine c_ret ?_
      refine q_block_ret (q_then_ret ?_)
      obtain ⟨r1, r2, r3, r4⟩ : _ ∧ _ ∧ _ ∧ _ := by first | exact Trc.piece_e1 hjk hjm hneg | exact Trc.piece_e2 hjk hjm hneg (hjb.symm.trans hbb) | exact Trc.piece_e3 hjk hjm hneg (hjb.symm.trans hbb) hda hok | exact Trc.piece_e4 hjk hjm hneg (hjb.symm.trans hbb) hda hok | exact Trc.piece_o1 hjk hjm hneg (hjb.symm.trans hbb) hda hok | exact Trc.piece_o2 hjk hjm hneg (hjb.symm.trans hbb) hda hok
      have hr0 : (0 : Int) = (Trc.pKey s) := by
        exact r1
      have hr1 : (0 : Int) = (Trc.pBy s) := by
        exact r2
      have hr2 : (0 : Int) = (Trc.pMany s) := by
        exact r3
      have hr3 : (1 : Int) = (Trc.pErr s) := by
        exact r4
      refine q_end0 (v := .tuple #[.int .i64 0, .int .i64 0, .int .i64 0, .int .i64 1]) (rt4 rfl (r_tmp rfl) (r_tmp rfl) (r_tmp rfl) (r_tmp rfl)) (i := 0) rfl ?_
      exact (by have hcc := congr (congr (congr (congrArg (fun (y0 : Int) (y1 : Int) (y2 : Int) (y3 : Int) => (.tuple #[.int .i64 y0, .int .i64 y1, .int .i64 y2, .int .i64 y3] : Value)) hr0) hr1) hr2) hr3; exact hcc)
    · skip
      have hbb := hc11
      refine c_skip ?_
      refine q_block_normal (q_then ?_)
      refine c_seq ?_
      refine c_region ?_
      refine o_pure (p_move (v := .int .i64 key) rfl) rfl rfl rfl ?_
      refine o_pure (p_assign (v := .int .i64 key) rfl) rfl rfl rfl ?_
      refine o_nil ?_
      refine q_then ?_
      refine c_seq ?_
      refine c_seq ?_
      refine c_region ?_
      refine o_pure (p_move (v := .int .i64 (Trc.cutI s)) rfl) rfl rfl rfl ?_
      refine o_pure (p_ge (p := (Trc.cutI s)) (q := 0) rfl rfl) rfl rfl rfl ?_
      refine o_pure (p_move (v := .bool (decide (0 ≤ (Trc.cutI s)))) rfl) rfl rfl rfl ?_
      refine o_and (p := 65) 5 (((byteAt s ((Trc.cutI s).toNat)).toNat : Int) == 45) ?_ ?_ ?_
      · intro hb12 hk
        simp only [decide_eq_true_eq] at hb12
        refine o_unguard 60 rfl rfl ?_
        refine o_pure (p_move (v := .string s) rfl) rfl rfl rfl ?_
        refine o_unguard 60 rfl rfl ?_
        refine o_pure (p_move (v := .int .i64 (Trc.cutI s)) rfl) rfl rfl rfl ?_
        refine o_unguard 60 rfl rfl ?_
        refine o_pure (p_indexStr (z := (Trc.cutI s)) (i := (Trc.cutI s).toNat) rfl rfl Tryd.underlying9 (by omega) (by omega)) rfl rfl rfl ?_
        refine o_unguard 60 rfl rfl ?_
        refine o_pure (p_eq (p := ((byteAt s ((Trc.cutI s).toNat)).toNat : Int)) (q := 45) rfl rfl) rfl rfl rfl ?_
        refine o_pure (p_pick_true (u := .bool (((byteAt s ((Trc.cutI s).toNat)).toNat : Int) == 45)) rfl rfl) rfl rfl rfl ?_
        exact o_sub (Sub.cons rfl (Sub.skip rfl (Sub.skip rfl (Sub.skip rfl (Sub.skip rfl (Sub.skip rfl (Sub.skip rfl (Sub.refl _)))))))) hk
      · intro hb12 hk
        refine o_guard_no rfl 60 rfl rfl rfl rfl rfl ?_
        refine o_guard_no rfl 60 rfl rfl rfl rfl rfl ?_
        refine o_guard_no rfl 60 rfl rfl rfl rfl rfl ?_
        refine o_guard_no rfl 60 rfl rfl rfl rfl rfl ?_
        refine o_pure (p_pick_false (v := .bool false) rfl rfl) rfl rfl rfl ?_
        exact o_sub (Sub.cons rfl (Sub.skip rfl (Sub.skip rfl (Sub.skip rfl (Sub.skip rfl (Sub.skip rfl (Sub.skip rfl (Sub.refl _)))))))) hk
      refine o_nil ?_
      refine q_then ?_
      refine c_cond (b := (decide (0 ≤ (Trc.cutI s)) && (((byteAt s ((Trc.cutI s).toNat)).toNat : Int) == 45))) rfl (fun hc13 => ?_) (fun hc13 => ?_)
      · simp only [Bool.and_eq_true, decide_eq_true_eq, beq_iff_eq] at hc13
        have hda := Trc.dash_of hc13
        refine c_region ?_
        refine o_pure (p_move (v := .int .i64 many) rfl) rfl rfl rfl ?_
        refine o_pure (p_move (v := .int .i64 many) rfl) rfl rfl rfl ?_
        refine o_pure (p_move (v := .int .i64 key) rfl) rfl rfl rfl ?_
        refine o_pure (p_subb (p := many) (q := key) rfl rfl (by omega)) rfl rfl rfl ?_
        refine o_pure (p_addb (p := (many - key)) (q := 1) rfl rfl (by omega)) rfl rfl rfl ?_
        refine o_pure (p_assign (v := .int .i64 1) rfl) rfl rfl rfl ?_
        refine o_pure (p_assign (v := .int .i64 many) rfl) rfl rfl rfl ?_
        refine o_pure (p_assign (v := .int .i64 ((many - key) + 1)) rfl) rfl rfl rfl ?_
        refine o_nil ?_
        refine q_then ?_
        refine c_seq ?_
        refine c_seq ?_
        refine c_region ?_
        refine o_pure (p_move (v := .int .i64 many) rfl) rfl rfl rfl ?_
        refine o_call0 (v := .bool (Lru.okKey many)) rfl (key_ok many) hf27 (fun _ _ => trivial) rfl ?_
        refine o_pure (p_not (b := (Lru.okKey many)) rfl) rfl rfl rfl ?_
        refine o_nil ?_
        refine q_then ?_
        refine c_cond (b := (!(Lru.okKey many))) rfl (fun hc14 => ?_) (fun hc14 => ?_)
        · simp only [Bool.not_eq_true'] at hc14
          have hok := hc14
          refine c_seq ?_
          refine c_region ?_
          refine o_pure (p_assign (v := .int .i64 0) rfl) rfl rfl rfl ?_
          refine o_pure (p_assign (v := .int .i64 0) rfl) rfl rfl rfl ?_
          refine o_pure (p_assign (v := .int .i64 0) rfl) rfl rfl rfl ?_
          refine o_pure (p_assign (v := .int .i64 3) rfl) rfl rfl rfl ?_
          refine o_nil ?_
          refine q_then ?_
          refine c_ret ?_
          refine q_then_ret ?_
          obtain ⟨r1, r2, r3, r4⟩ : _ ∧ _ ∧ _ ∧ _ := by first | exact Trc.piece_e1 hjk hjm hneg | exact Trc.piece_e2 hjk hjm hneg (hjb.symm.trans hbb) | exact Trc.piece_e3 hjk hjm hneg (hjb.symm.trans hbb) hda hok | exact Trc.piece_e4 hjk hjm hneg (hjb.symm.trans hbb) hda hok | exact Trc.piece_o1 hjk hjm hneg (hjb.symm.trans hbb) hda hok | exact Trc.piece_o2 hjk hjm hneg (hjb.symm.trans hbb) hda hok
          have hr0 : (0 : Int) = (Trc.pKey s) := by
            exact r1
          have hr1 : (0 : Int) = (Trc.pBy s) := by
            exact r2
          have hr2 : (0 : Int) = (Trc.pMany s) := by
            exact r3
          have hr3 : (3 : Int) = (Trc.pErr s) := by
            exact r4
          refine q_end0 (v := .tuple #[.int .i64 0, .int .i64 0, .int .i64 0, .int .i64 3]) (rt4 rfl (r_tmp rfl) (r_tmp rfl) (r_tmp rfl) (r_tmp rfl)) (i := 0) rfl ?_
          exact (by have hcc := congr (congr (congr (congrArg (fun (y0 : Int) (y1 : Int) (y2 : Int) (y3 : Int) => (.tuple #[.int .i64 y0, .int .i64 y1, .int .i64 y2, .int .i64 y3] : Value)) hr0) hr1) hr2) hr3; exact hcc)
        · simp only [Bool.not_eq_false'] at hc14
          have hok := hc14
          refine c_skip ?_
          refine q_then ?_
          refine c_seq ?_
          refine c_region ?_
          refine o_pure (p_move (v := .int .i64 key) rfl) rfl rfl rfl ?_
          refine o_pure (p_move (v := .int .i64 1) rfl) rfl rfl rfl ?_
          refine o_pure (p_move (v := .int .i64 ((many - key) + 1)) rfl) rfl rfl rfl ?_
          refine o_pure (p_assign (v := .int .i64 key) rfl) rfl rfl rfl ?_
          refine o_pure (p_assign (v := .int .i64 1) rfl) rfl rfl rfl ?_
          refine o_pure (p_assign (v := .int .i64 ((many - key) + 1)) rfl) rfl rfl rfl ?_
          refine o_pure (p_assign (v := .int .i64 0) rfl) rfl rfl rfl ?_
          refine o_nil ?_
          refine q_then ?_
          refine c_ret ?_
          obtain ⟨r1, r2, r3, r4⟩ : _ ∧ _ ∧ _ ∧ _ := by first | exact Trc.piece_e1 hjk hjm hneg | exact Trc.piece_e2 hjk hjm hneg (hjb.symm.trans hbb) | exact Trc.piece_e3 hjk hjm hneg (hjb.symm.trans hbb) hda hok | exact Trc.piece_e4 hjk hjm hneg (hjb.symm.trans hbb) hda hok | exact Trc.piece_o1 hjk hjm hneg (hjb.symm.trans hbb) hda hok | exact Trc.piece_o2 hjk hjm hneg (hjb.symm.trans hbb) hda hok
          have hr0 : (key : Int) = (Trc.pKey s) := by
            exact r1
          have hr1 : (1 : Int) = (Trc.pBy s) := by
            exact r2
          have hr2 : (((many - key) + 1) : Int) = (Trc.pMany s) := by
            exact r3
          have hr3 : (0 : Int) = (Trc.pErr s) := by
            exact r4
          refine q_end0 (v := .tuple #[.int .i64 key, .int .i64 1, .int .i64 ((many - key) + 1), .int .i64 0]) (rt4 rfl (r_tmp rfl) (r_tmp rfl) (r_tmp rfl) (r_tmp rfl)) (i := 0) rfl ?_
          exact (by have hcc := congr (congr (congr (congrArg (fun (y0 : Int) (y1 : Int) (y2 : Int) (y3 : Int) => (.tuple #[.int .i64 y0, .int .i64 y1, .int .i64 y2, .int .i64 y3] : Value)) hr0) hr1) hr2) hr3; exact hcc)
      · simp only [Bool.and_eq_false_iff, decide_eq_false_iff_not, Int.not_le, beq_eq_false_iff_ne, ne_eq] at hc13
        have hda := Trc.dash_no hc13
        refine c_skip ?_
        refine q_then ?_
        refine c_seq ?_
        refine c_seq ?_
        refine c_region ?_
        refine o_pure (p_move (v := .int .i64 key) rfl) rfl rfl rfl ?_
        refine o_call0 (v := .bool (Lru.okKey key)) rfl (key_ok key) hf27 (fun _ _ => trivial) rfl ?_
        refine o_pure (p_not (b := (Lru.okKey key)) rfl) rfl rfl rfl ?_
        refine o_nil ?_
        refine q_then ?_
        refine c_cond (b := (!(Lru.okKey key))) rfl (fun hc15 => ?_) (fun hc15 => ?_)
        · simp only [Bool.not_eq_true'] at hc15
          have hok := hc15
          refine c_seq ?_
          refine c_region ?_
          refine o_pure (p_assign (v := .int .i64 0) rfl) rfl rfl rfl ?_
          refine o_pure (p_assign (v := .int .i64 0) rfl) rfl rfl rfl ?_
          refine o_pure (p_assign (v := .int .i64 0) rfl) rfl rfl rfl ?_
          refine o_pure (p_assign (v := .int .i64 3) rfl) rfl rfl rfl ?_
          refine o_nil ?_
          refine q_then ?_
          refine c_ret ?_
          refine q_then_ret ?_
          obtain ⟨r1, r2, r3, r4⟩ : _ ∧ _ ∧ _ ∧ _ := by first | exact Trc.piece_e1 hjk hjm hneg | exact Trc.piece_e2 hjk hjm hneg (hjb.symm.trans hbb) | exact Trc.piece_e3 hjk hjm hneg (hjb.symm.trans hbb) hda hok | exact Trc.piece_e4 hjk hjm hneg (hjb.symm.trans hbb) hda hok | exact Trc.piece_o1 hjk hjm hneg (hjb.symm.trans hbb) hda hok | exact Trc.piece_o2 hjk hjm hneg (hjb.symm.trans hbb) hda hok
          have hr0 : (0 : Int) = (Trc.pKey s) := by
            exact r1
          have hr1 : (0 : Int) = (Trc.pBy s) := by
            exact r2
          have hr2 : (0 : Int) = (Trc.pMany s) := by
            exact r3
          have hr3 : (3 : Int) = (Trc.pErr s) := by
            exact r4
          refine q_end0 (v := .tuple #[.int .i64 0, .int .i64 0, .int .i64 0, .int .i64 3]) (rt4 rfl (r_tmp rfl) (r_tmp rfl) (r_tmp rfl) (r_tmp rfl)) (i := 0) rfl ?_
          exact (by have hcc := congr (congr (congr (congrArg (fun (y0 : Int) (y1 : Int) (y2 : Int) (y3 : Int) => (.tuple #[.int .i64 y0, .int .i64 y1, .int .i64 y2, .int .i64 y3] : Value)) hr0) hr1) hr2) hr3; exact hcc)
        · simp only [Bool.not_eq_false'] at hc15
          have hok := hc15
          refine c_skip ?_
          refine q_then ?_
          refine c_seq ?_
          refine c_region ?_
          refine o_pure (p_move (v := .int .i64 key) rfl) rfl rfl rfl ?_
          refine o_pure (p_move (v := .int .i64 0) rfl) rfl rfl rfl ?_
          refine o_pure (p_move (v := .int .i64 many) rfl) rfl rfl rfl ?_
          refine o_pure (p_assign (v := .int .i64 key) rfl) rfl rfl rfl ?_
          refine o_pure (p_assign (v := .int .i64 0) rfl) rfl rfl rfl ?_
          refine o_pure (p_assign (v := .int .i64 many) rfl) rfl rfl rfl ?_
          refine o_pure (p_assign (v := .int .i64 0) rfl) rfl rfl rfl ?_
          refine o_nil ?_
          refine q_then ?_
          refine c_ret ?_
          obtain ⟨r1, r2, r3, r4⟩ : _ ∧ _ ∧ _ ∧ _ := by first | exact Trc.piece_e1 hjk hjm hneg | exact Trc.piece_e2 hjk hjm hneg (hjb.symm.trans hbb) | exact Trc.piece_e3 hjk hjm hneg (hjb.symm.trans hbb) hda hok | exact Trc.piece_e4 hjk hjm hneg (hjb.symm.trans hbb) hda hok | exact Trc.piece_o1 hjk hjm hneg (hjb.symm.trans hbb) hda hok | exact Trc.piece_o2 hjk hjm hneg (hjb.symm.trans hbb) hda hok
          have hr0 : (key : Int) = (Trc.pKey s) := by
            exact r1
          have hr1 : (0 : Int) = (Trc.pBy s) := by
            exact r2
          have hr2 : (many : Int) = (Trc.pMany s) := by
            exact r3
          have hr3 : (0 : Int) = (Trc.pErr s) := by
            exact r4
          refine q_end0 (v := .tuple #[.int .i64 key, .int .i64 0, .int .i64 many, .int .i64 0]) (rt4 rfl (r_tmp rfl) (r_tmp rfl) (r_tmp rfl) (r_tmp rfl)) (i := 0) rfl ?_
          exact (by have hcc := congr (congr (congr (congrArg (fun (y0 : Int) (y1 : Int) (y2 : Int) (y3 : Int) => (.tuple #[.int .i64 y0, .int .i64 y1, .int .i64 y2, .int .i64 y3] : Value)) hr0) hr1) hr2) hr3; exact hcc)
end Go.Proofs.YtgkihbbeimhmbaaDoor
