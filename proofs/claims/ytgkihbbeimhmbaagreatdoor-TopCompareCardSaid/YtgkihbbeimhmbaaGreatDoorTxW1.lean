/- The walks, printed by a program from the translation and a specification. -/
import Derived.Test.YtgkihbbeimhmbaaGreatDoorTxF
import Derived.Test.YtgkihbbeimhmbaaGreatDoorOpLaw4M17
namespace Go.Proofs.YtgkihbbeimhmbaaGreatDoor
open Go.Sx Go.RowKit
set_option maxHeartbeats 8000000 in
set_option maxRecDepth 100000 in
theorem indexFunc_Int_ok (l : List Int) (al : Option Addr) (cl : Nat) (gf : FuncId) (kf : List Value) (f : Int → Bool) (Pf : World → Prop) (stf : ∀ w w', Below w.heap.size w w' → Pf w → Pf w') (okf : ∀ (x : Int), Fn0 Tryz.prog gf (Vi x :: kf) Pf (.bool (f x))) (hpf : HasFn Tryz.prog gf) : Fn0 Tryz.prog 69 [.slice al l.length cl, .func (.func gf) #[] kf.toArray] (fun w => Rd tInt w al cl l ∧ Pf w) (Vi (idxF f l)) := by
 refine fn0 (nt := 19) (F0 := [(0, .slice al l.length cl), (1, .func (.func gf) #[] kf.toArray)]) Tryz.func69 rfl Tryz.ntmps69 rfl rfl (fun w0 hpre => ?_)
 obtain ⟨hl, hf⟩ := hpre
 have hlhl := hl.2.1
 refine c_seq (c_region ?_)
 refine o_as rfl rfl ?_
 refine o_nil (q_then (c_seq (c_seq (c_region ?_))))
 refine o_mv rfl rfl ?_
 refine o_p (p_len_slice rfl rfl Tryz.underlying26) ?_
 refine o_mv rfl rfl ?_
 refine o_nil (q_then (c_block ?_))
 refine c_loop (St := Nat)
  (fun k => [(0, .slice al l.length cl), (1, .func (.func gf) #[] kf.toArray), (7, Vi (l.length : Int)), (8, Vi (k : Int))])
  (fun k => [base w0])
  (fun k => k ≤ l.length ∧ ∀ j (h : j < l.length), j < k → f l[j] = false)
  (fun k => l.length - k)
  0 ?_ (sr (sr (sr (sr (Sub.nil _))))) (fun _ hw => hw) ?_
 ·exact ⟨Nat.zero_le _, fun j _ h => absurd h (by omega)⟩
 rintro k hI K hK1
 obtain ⟨hI1, hI2⟩ := hI
 show SC _ _ Tryz.prog 19 w0 _ _ [(0, .slice al l.length cl), (1, .func (.func gf) #[] kf.toArray), (7, Vi (l.length : Int)), (8, Vi (k : Int))] [base w0]
 refine c_seq (c_region ?_)
 refine o_p (p_lt rfl rfl) ?_
 refine o_nil (q_then (c_seq ?_))
 refine c_cond rfl (fun hc2 => ?_) (fun hc2 => ?_)
 ·simp only [decide_eq_true_eq] at hc2
  refine c_skip (q_then (c_seq (c_block (c_seq (c_region ?_)))))
  refine o_mv rfl rfl ?_
  refine o_as rfl rfl ?_
  refine o_nil (q_then (c_seq (c_region ?_)))
  refine o_mv rfl rfl ?_
  refine o_mv rfl rfl ?_
  refine o_mv rfl rfl ?_
  refine o_p (p_indexAddr (L := l) (T := tInt) (i := (k : Int)) rfl rfl (rd_base (i := 0) rfl hl) Tryz.underlying26 sz3 (by omega) (by omega)) ?_
  refine o_p (p_loadE1 (i := k) (T := tInt) (L := l) (v := Vi (l[k])) rfl (rd_base (i := 0) rfl hl) (by first | assumption | omega) sh3 rfl) ?_
  refine o_call0V (vs := [Vi (l[k])]) (caps := kf) (v := .bool (f (l[k]))) rfl rfl (okf (l[k])) hpf (pre_base (i := 0) rfl stf hf) rfl ?_
  refine o_nil (q_then ?_)
  refine c_cond rfl (fun hc3 => ?_) (fun hc3 => ?_)
  ·skip
   refine c_seq (c_region ?_)
   refine o_mv rfl rfl ?_
   refine o_as rfl rfl ?_
   refine o_nil (q_then (c_ret ?_))
   refine q_block_ret (q_then_ret (q_then_ret (q_block_ret (q_then_ret ?_))))
   have hr0 : ((k : Int) : Int) = (idxF f l) := by
    first | exact idxF_found (by omega) (by assumption) hI2 | exact idxF_none (fun j h => hI2 j h (by omega))
   refine q_end0 (v := Vi (k : Int)) (rt1 rfl (r_tmp rfl)) (i := 0) rfl ?_
   exact (by have hcc := congrArg (fun (y0 : Int) => (.int .i64 y0 : Value)) hr0; exact hcc)
  ·skip
   refine c_skip ?_
   refine q_block_normal (q_then ?_)
   refine c_region ?_
   refine o_p (p_addb rfl rfl (by omega)) ?_
   refine o_mv rfl rfl ?_
   refine o_nil ?_
   refine q_round hK1 (k + 1) ?_ ?_ ?_ ?_
   ·clear hK1
    refine ⟨by omega, fun j h h2 => ?_⟩
    by_cases e : j = k
    ·subst e; assumption
    ·exact hI2 j h (by omega)
   ·(try dsimp only); omega
   ·exact sr (sr (sr (sr (Sub.nil _))))
   ·exact pk [0]
 ·simp only [decide_eq_false_iff_not, Int.not_lt] at hc2
  refine c_exit ?_
  refine q_then_exit (q_then_exit (q_block_exit (q_then ?_)))
  refine c_seq (c_region ?_)
  refine o_as rfl rfl ?_
  refine o_nil (q_then (c_ret ?_))
  have hr0 : ((-1) : Int) = (idxF f l) := by
   first | exact idxF_found (by omega) (by assumption) hI2 | exact idxF_none (fun j h => hI2 j h (by omega))
  refine q_end0 (v := Vi (-1)) (rt1 rfl (r_tmp rfl)) (i := 0) rfl ?_
  exact (by have hcc := congrArg (fun (y0 : Int) => (.int .i64 y0 : Value)) hr0; exact hcc)

set_option maxHeartbeats 8000000 in
set_option maxRecDepth 100000 in
theorem containsFunc_Int_ok (l : List Int) (al : Option Addr) (cl : Nat) (gf : FuncId) (kf : List Value) (f : Int → Bool) (Pf : World → Prop) (stf : ∀ w w', Below w.heap.size w w' → Pf w → Pf w') (okf : ∀ (x : Int), Fn0 Tryz.prog gf (Vi x :: kf) Pf (.bool (f x))) (hpf : HasFn Tryz.prog gf) : Fn0 Tryz.prog 38 [.slice al l.length cl, .func (.func gf) #[] kf.toArray] (fun w => Rd tInt w al cl l ∧ Pf w) (.bool (l.any f)) := by
 refine fn0 (nt := 9) (F0 := [(0, .slice al l.length cl), (1, .func (.func gf) #[] kf.toArray)]) Tryz.func38 rfl Tryz.ntmps38 rfl rfl (fun w0 hpre => ?_)
 obtain ⟨hl, hf⟩ := hpre
 have hlhl := hl.2.1
 refine c_seq (c_region ?_)
 refine o_as rfl rfl ?_
 refine o_nil (q_then (c_seq (c_region ?_)))
 refine o_mv rfl rfl ?_
 refine o_mv rfl rfl ?_
 refine o_call0 (v := Vi (idxF f l)) rfl (indexFunc_Int_ok l al cl gf kf f Pf stf okf hpf) hf69 (fun w hw => ⟨(rd_base (i := 0) rfl hl) w hw, pre_base (i := 0) rfl stf hf w hw⟩) rfl ?_
 refine o_p (p_ge rfl rfl) ?_
 refine o_as rfl rfl ?_
 refine o_nil (q_then (c_ret ?_))
 have hr0 : (decide (0 ≤ (idxF f l)) : Bool) = (l.any f) := by
  exact (any_idxF f l).symm
 refine q_end0 (v := .bool (decide (0 ≤ (idxF f l)))) (rt1 rfl (r_tmp rfl)) (i := 0) rfl ?_
 exact (by have hcc := congrArg (fun (y0 : Bool) => (.bool y0 : Value)) hr0; exact hcc)

set_option maxHeartbeats 8000000 in
set_option maxRecDepth 100000 in
theorem key_ok (n : Int) : Fn0 Tryz.prog 26 [Vi n] (fun _ => True) (.bool (Lru.okKey n)) := by
 refine fn0 (nt := 9) (F0 := [(0, Vi n)]) Tryz.func26 rfl Tryz.ntmps26 rfl rfl (fun w0 hpre => ?_)
 refine c_seq (c_region ?_)
 refine o_as rfl rfl ?_
 refine o_nil (q_then (c_seq (c_region ?_)))
 refine o_mv rfl rfl ?_
 refine o_p (p_ge rfl rfl) ?_
 refine o_mv rfl rfl ?_
 refine o_and (p := 8) 3 (decide (n ≤ 1048576)) ?_ ?_ ?_
 ·intro hb1 hk
  simp only [decide_eq_true_eq] at hb1
  refine o_unguard 5 rfl rfl ?_
  refine o_mv rfl rfl ?_
  refine o_unguard 5 rfl rfl ?_
  refine o_p (p_le rfl rfl) ?_
  refine o_pt rfl rfl rfl ?_
  exact o_sub (sr (Sub.skip rfl (Sub.skip rfl (Sub.skip rfl (Sub.skip rfl (Sub.refl _)))))) hk
 ·intro hb1 hk
  refine o_guard_no rfl 5 rfl rfl rfl rfl rfl ?_
  refine o_guard_no rfl 5 rfl rfl rfl rfl rfl ?_
  refine o_pf rfl rfl rfl ?_
  exact o_sub (sr (Sub.skip rfl (Sub.skip rfl (Sub.skip rfl (Sub.skip rfl (Sub.refl _)))))) hk
 refine o_as rfl rfl ?_
 refine o_nil (q_then (c_ret ?_))
 have hr0 : ((decide (0 ≤ n) && decide (n ≤ 1048576)) : Bool) = (Lru.okKey n) := by
  rfl
 refine q_end0 (v := .bool (decide (0 ≤ n) && decide (n ≤ 1048576))) (rt1 rfl (r_tmp rfl)) (i := 0) rfl ?_
 exact (by have hcc := congrArg (fun (y0 : Bool) => (.bool y0 : Value)) hr0; exact hcc)

set_option maxHeartbeats 8000000 in
set_option maxRecDepth 100000 in
theorem room_ok (n : Int) : Fn0 Tryz.prog 36 [Vi n] (fun _ => True) (.bool (Lru.okRoom n)) := by
 refine fn0 (nt := 9) (F0 := [(0, Vi n)]) Tryz.func36 rfl Tryz.ntmps36 rfl rfl (fun w0 hpre => ?_)
 refine c_seq (c_region ?_)
 refine o_as rfl rfl ?_
 refine o_nil (q_then (c_seq (c_region ?_)))
 refine o_mv rfl rfl ?_
 refine o_p (p_ge rfl rfl) ?_
 refine o_mv rfl rfl ?_
 refine o_and (p := 8) 3 (decide (n ≤ 40)) ?_ ?_ ?_
 ·intro hb1 hk
  simp only [decide_eq_true_eq] at hb1
  refine o_unguard 5 rfl rfl ?_
  refine o_mv rfl rfl ?_
  refine o_unguard 5 rfl rfl ?_
  refine o_p (p_le rfl rfl) ?_
  refine o_pt rfl rfl rfl ?_
  exact o_sub (sr (Sub.skip rfl (Sub.skip rfl (Sub.skip rfl (Sub.skip rfl (Sub.refl _)))))) hk
 ·intro hb1 hk
  refine o_guard_no rfl 5 rfl rfl rfl rfl rfl ?_
  refine o_guard_no rfl 5 rfl rfl rfl rfl rfl ?_
  refine o_pf rfl rfl rfl ?_
  exact o_sub (sr (Sub.skip rfl (Sub.skip rfl (Sub.skip rfl (Sub.skip rfl (Sub.refl _)))))) hk
 refine o_as rfl rfl ?_
 refine o_nil (q_then (c_ret ?_))
 have hr0 : ((decide (1 ≤ n) && decide (n ≤ 40)) : Bool) = (Lru.okRoom n) := by
  rfl
 refine q_end0 (v := .bool (decide (1 ≤ n) && decide (n ≤ 40))) (rt1 rfl (r_tmp rfl)) (i := 0) rfl ?_
 exact (by have hcc := congrArg (fun (y0 : Bool) => (.bool y0 : Value)) hr0; exact hcc)

set_option maxHeartbeats 8000000 in
set_option maxRecDepth 100000 in
theorem checkTrace1_ok (key : Int) : Fn0 Tryz.prog 39 [Vi key] (fun _ => True) (.bool (!Lru.okKey key)) := by
 refine fn0 (nt := 6) (F0 := [(0, Vi key)]) Tryz.func39 rfl Tryz.ntmps39 rfl rfl (fun w0 hpre => ?_)
 refine c_seq (c_region ?_)
 refine o_as rfl rfl ?_
 refine o_nil (q_then (c_seq (c_region ?_)))
 refine o_mv rfl rfl ?_
 refine o_call0 (v := .bool (Lru.okKey key)) rfl (key_ok key) hf26 (fun _ _ => trivial) rfl ?_
 refine o_p (p_not (b := (Lru.okKey key)) rfl) ?_
 refine o_as rfl rfl ?_
 refine o_nil (q_then (c_ret ?_))
 have hr0 : ((!(Lru.okKey key)) : Bool) = (!Lru.okKey key) := by
  rfl
 refine q_end0 (v := .bool (!(Lru.okKey key))) (rt1 rfl (r_tmp rfl)) (i := 0) rfl ?_
 exact (by have hcc := congrArg (fun (y0 : Bool) => (.bool y0 : Value)) hr0; exact hcc)

set_option maxHeartbeats 8000000 in
set_option maxRecDepth 100000 in
theorem checkTrace_ok (l : List Int) (al : Option Addr) (cl : Nat) : Fn0 Tryz.prog 17 [.slice al l.length cl] (fun w => Rd tInt w al cl l) (Vi (Lru.trace l)) := by
 refine fn0 (nt := 10) (F0 := [(0, .slice al l.length cl)]) Tryz.func17 rfl Tryz.ntmps17 rfl rfl (fun w0 hpre => ?_)
 have hl := hpre
 have hlhl := hl.2.1
 refine c_seq (c_region ?_)
 refine o_as rfl rfl ?_
 refine o_nil (q_then (c_seq (c_block (c_seq (c_region ?_)))))
 refine o_mv rfl rfl ?_
 refine o_p (p_len_slice rfl rfl Tryz.underlying26) ?_
 refine o_p (p_gt rfl rfl) ?_
 refine o_as rfl rfl ?_
 refine o_nil (q_then ?_)
 refine c_cond rfl (fun hc1 => ?_) (fun hc1 => ?_)
 ·simp only [decide_eq_true_eq] at hc1
  refine c_seq (c_region ?_)
  refine o_as rfl rfl ?_
  refine o_nil (q_then (c_ret ?_))
  refine q_block_ret (q_then_ret ?_)
  have hr0 : (2 : Int) = (Lru.trace l) := by
   first | exact (Lru.trace_many (by assumption)).symm | exact (Lru.trace_bad (by omega) (by assumption)).symm | exact (Lru.trace_fine (by omega) (by assumption)).symm
  refine q_end0 (v := Vi 2) (rt1 rfl (r_tmp rfl)) (i := 0) rfl ?_
  exact (by have hcc := congrArg (fun (y0 : Int) => (.int .i64 y0 : Value)) hr0; exact hcc)
 ·simp only [decide_eq_false_iff_not, Int.not_lt] at hc1
  refine c_seq (c_region ?_)
  refine o_mv rfl rfl ?_
  refine o_call0 (v := .bool (l.any (fun x : Int => (!Lru.okKey x)))) rfl (containsFunc_Int_ok l al cl 39 [] (fun x => (!Lru.okKey x)) (fun _ => True) (fun _ _ _ h => h) (fun x => checkTrace1_ok x) hf39) hf38 (fun w hw => ⟨(rd_base (i := 0) rfl hl) w hw, trivial⟩) rfl ?_
  refine o_as rfl rfl ?_
  refine o_nil (q_then ?_)
  refine c_cond rfl (fun hc2 => ?_) (fun hc2 => ?_)
  ·skip
   refine c_seq (c_region ?_)
   refine o_as rfl rfl ?_
   refine o_nil (q_then (c_ret ?_))
   refine q_block_ret (q_then_ret ?_)
   have hr0 : (3 : Int) = (Lru.trace l) := by
    first | exact (Lru.trace_many (by assumption)).symm | exact (Lru.trace_bad (by omega) (by assumption)).symm | exact (Lru.trace_fine (by omega) (by assumption)).symm
   refine q_end0 (v := Vi 3) (rt1 rfl (r_tmp rfl)) (i := 0) rfl ?_
   exact (by have hcc := congrArg (fun (y0 : Int) => (.int .i64 y0 : Value)) hr0; exact hcc)
  ·skip
   refine c_skip ?_
   refine q_block_normal (q_then ?_)
   refine c_seq (c_region ?_)
   refine o_as rfl rfl ?_
   refine o_nil (q_then (c_ret ?_))
   have hr0 : (0 : Int) = (Lru.trace l) := by
    first | exact (Lru.trace_many (by assumption)).symm | exact (Lru.trace_bad (by omega) (by assumption)).symm | exact (Lru.trace_fine (by omega) (by assumption)).symm
   refine q_end0 (v := Vi 0) (rt1 rfl (r_tmp rfl)) (i := 0) rfl ?_
   exact (by have hcc := congrArg (fun (y0 : Int) => (.int .i64 y0 : Value)) hr0; exact hcc)

set_option maxHeartbeats 8000000 in
set_option maxRecDepth 100000 in
theorem clone_Int_ok (l : List Int) (al : Option Addr) (cl : Nat) (hy1 : l.length ≤ 1000000) : FnM Tryz.prog 40 [.slice al l.length cl] (fun w => Rd tInt w al cl l) (Option Addr × Nat) (fun p => .slice p.1 l.length p.2) (fun p S w => SlO tInt S w p.1 p.2 l) := by
 refine fnM (nt := 8) (F0 := [(0, .slice al l.length cl)]) Tryz.func40 rfl Tryz.ntmps40 rfl rfl (fun w0 hpre => ?_)
 have hl := hpre
 have hlhl := hl.2.1
 refine c_seq (c_region ?_)
 refine o_as rfl rfl ?_
 refine o_nil (q_then (c_seq (c_seq (c_region ?_))))
 refine o_mv rfl rfl ?_
 refine o_p (p_eqNil rfl rfl Tryz.underlying26) ?_
 refine o_nil (q_then ?_)
 refine c_cond rfl (fun hc1 => ?_) (fun hc1 => ?_)
 ·skip
  refine c_seq (c_region ?_)
  refine o_as rfl rfl ?_
  refine o_nil (q_then (c_ret ?_))
  refine q_then_ret ?_
  have hr0 : ([] : List Int) = l := by
   first | exact (rd_isNone hl (by assumption)).symm | simp
  refine q_endM (p := (none, 0)) (fun _ => False) (rt1 rfl (r_tmp rfl)) (i := 0) rfl ?_ ?_ ?_
  ·exact (by have hcc := congrArg (fun (y0 : List Int) => (.slice none y0.length 0 : Value)) hr0; exact hcc)
  ·intro w hw b hb; exact hb.elim
  ·intro w hw; exact Eq.mp (congrArg (fun y => SlO tInt _ w none 0 y) hr0) (SlO.nil tInt w)
 ·skip
  refine c_skip (q_then (c_seq (c_region ?_)))
  refine o_buildSlice (m := 0) (T := tInt) (L := []) (vs := []) rfl rfl rfl rfl Tryz.underlying26 sz3 (by decide) ze3 rfl (by decide) rfl (fun S2 a3 => ?_)
  refine o_mv rfl rfl ?_
  refine o_append (i := 0) (L := []) (M := l) (T := tInt) rfl rfl rfl (rd_base (i := 1) rfl hl) Tryz.underlying26 Tryz.underlying26 (by intro k h; cases h) el3 (by intro z; simp [tInt, one1]) (by decide) (by simp only [List.length_nil]; omega) rfl (fun a5 c6 S7 => ?_)
  refine o_as rfl rfl ?_
  refine o_nil (q_then (c_ret ?_))
  have hr0 : (([] ++ l) : List Int) = l := by
   first | exact (rd_isNone hl (by assumption)).symm | simp
  refine q_endM (p := (a5, c6)) S7 (rt1 rfl (r_tmp rfl)) (i := 1) rfl ?_ ?_ ?_
  ·exact (by have hcc := congrArg (fun (y0 : List Int) => (.slice a5 y0.length c6 : Value)) hr0; exact hcc)
  ·exact fun w hw => hw.above (i := 1) (j := 0) (by decide) rfl rfl
  ·intro w hw; exact Eq.mp (congrArg (fun y => SlO tInt _ w a5 c6 y) hr0) ((hw.at (i := 0) rfl).here)

set_option maxHeartbeats 8000000 in
set_option maxRecDepth 100000 in
theorem index_int_ok (l : List Int) (al : Option Addr) (cl : Nat) (v : Int) : Fn0 Tryz.prog 41 [.slice al l.length cl, Vi v] (fun w => Rd tInt w al cl l) (Vi (idxF (fun x : Int => (x == v)) l)) := by
 refine fn0 (nt := 19) (F0 := [(0, .slice al l.length cl), (1, Vi v)]) Tryz.func41 rfl Tryz.ntmps41 rfl rfl (fun w0 hpre => ?_)
 have hl := hpre
 have hlhl := hl.2.1
 refine c_seq (c_region ?_)
 refine o_as rfl rfl ?_
 refine o_nil (q_then (c_seq (c_seq (c_region ?_))))
 refine o_mv rfl rfl ?_
 refine o_p (p_len_slice rfl rfl Tryz.underlying26) ?_
 refine o_mv rfl rfl ?_
 refine o_nil (q_then (c_block ?_))
 refine c_loop (St := Nat)
  (fun k => [(0, .slice al l.length cl), (1, Vi v), (7, Vi (l.length : Int)), (8, Vi (k : Int))])
  (fun k => [base w0])
  (fun k => k ≤ l.length ∧ ∀ j (h : j < l.length), j < k → l[j] ≠ v)
  (fun k => l.length - k)
  0 ?_ (sr (sr (sr (sr (Sub.nil _))))) (fun _ hw => hw) ?_
 ·exact ⟨Nat.zero_le _, fun j _ h => absurd h (by omega)⟩
 rintro k hI K hK1
 show SC _ _ Tryz.prog 19 w0 _ _ [(0, .slice al l.length cl), (1, Vi v), (7, Vi (l.length : Int)), (8, Vi (k : Int))] [base w0]
 refine c_seq (c_region ?_)
 refine o_p (p_lt rfl rfl) ?_
 refine o_nil (q_then (c_seq ?_))
 refine c_cond rfl (fun hc2 => ?_) (fun hc2 => ?_)
 ·simp only [decide_eq_true_eq] at hc2
  refine c_skip (q_then (c_seq (c_block (c_seq (c_region ?_)))))
  refine o_mv rfl rfl ?_
  refine o_as rfl rfl ?_
  refine o_nil (q_then (c_seq (c_region ?_)))
  refine o_mv rfl rfl ?_
  refine o_mv rfl rfl ?_
  refine o_mv rfl rfl ?_
  refine o_p (p_indexAddr (L := l) (T := tInt) (i := (k : Int)) rfl rfl (rd_base (i := 0) rfl hl) Tryz.underlying26 sz3 (by omega) (by omega)) ?_
  refine o_p (p_loadE1 (i := k) (T := tInt) (L := l) (v := Vi (l[k])) rfl (rd_base (i := 0) rfl hl) (by first | assumption | omega) sh3 rfl) ?_
  refine o_p (p_eq rfl rfl) ?_
  refine o_nil (q_then ?_)
  refine c_cond rfl (fun hc3 => ?_) (fun hc3 => ?_)
  ·simp only [beq_iff_eq] at hc3
   refine c_seq (c_region ?_)
   refine o_mv rfl rfl ?_
   refine o_as rfl rfl ?_
   refine o_nil (q_then (c_ret ?_))
   refine q_block_ret (q_then_ret (q_then_ret (q_block_ret (q_then_ret ?_))))
   have hr0 : ((k : Int) : Int) = (idxF (fun x : Int => (x == v)) l) := by
    first | exact idxF_found (by omega) (by simp_all) (fun j h h2 => by simpa using hI.2 j h h2) | exact idxF_none (fun j h => by simpa using hI.2 j h (by omega))
   refine q_end0 (v := Vi (k : Int)) (rt1 rfl (r_tmp rfl)) (i := 0) rfl ?_
   exact (by have hcc := congrArg (fun (y0 : Int) => (.int .i64 y0 : Value)) hr0; exact hcc)
  ·simp only [beq_eq_false_iff_ne, ne_eq] at hc3
   refine c_skip ?_
   refine q_block_normal (q_then ?_)
   refine c_region ?_
   refine o_p (p_addb rfl rfl (by omega)) ?_
   refine o_mv rfl rfl ?_
   refine o_nil ?_
   refine q_round hK1 (k + 1) ?_ ?_ ?_ ?_
   ·clear hK1
    refine ⟨by omega, fun j h h2 => ?_⟩
    by_cases e : j = k
    ·subst e; intro h9; simp_all
    ·exact hI.2 j h (by omega)
   ·(try dsimp only); omega
   ·exact sr (sr (sr (sr (Sub.nil _))))
   ·exact pk [0]
 ·simp only [decide_eq_false_iff_not, Int.not_lt] at hc2
  refine c_exit ?_
  refine q_then_exit (q_then_exit (q_block_exit (q_then ?_)))
  refine c_seq (c_region ?_)
  refine o_as rfl rfl ?_
  refine o_nil (q_then (c_ret ?_))
  have hr0 : ((-1) : Int) = (idxF (fun x : Int => (x == v)) l) := by
   first | exact idxF_found (by omega) (by simp_all) (fun j h h2 => by simpa using hI.2 j h h2) | exact idxF_none (fun j h => by simpa using hI.2 j h (by omega))
  refine q_end0 (v := Vi (-1)) (rt1 rfl (r_tmp rfl)) (i := 0) rfl ?_
  exact (by have hcc := congrArg (fun (y0 : Int) => (.int .i64 y0 : Value)) hr0; exact hcc)

set_option maxHeartbeats 8000000 in
set_option maxRecDepth 100000 in
theorem delete_Int_ok (l : List Int) (al : Option Addr) (cl : Nat) (Sl : Nat → Prop) (i : Int) (j : Int) (hy1 : 0 ≤ i ∧ i ≤ j ∧ j ≤ (l.length : Int)) : FnX Tryz.prog 42 [.slice al l.length cl, Vi i, Vi j] [own tInt Sl al cl l] (fun _ => True) (Option Addr × Nat × (Nat → Prop)) (fun p => .slice p.1 (l.take i.toNat ++ l.drop j.toNat).length p.2.1) (fun p => [own tInt p.2.2 p.1 p.2.1 (l.take i.toNat ++ l.drop j.toNat)]) := by
 refine fnX (nt := 33) (F0 := [(0, .slice al l.length cl), (1, Vi i), (2, Vi j)]) Tryz.func42 rfl Tryz.ntmps42 rfl rfl (fun w0 hpre => ?_)
 refine c_know (fun w hw => own_len (i := 1) (T := tInt) hw rfl) (fun hlown_l => ?_)
 obtain ⟨hcown_l, hlown_l⟩ := hlown_l
 refine c_seq (c_region ?_)
 refine o_as rfl rfl ?_
 refine o_nil (q_then (c_seq (c_region ?_)))
 refine o_mv rfl rfl ?_
 refine o_mv rfl rfl ?_
 refine o_mv rfl rfl ?_
 refine o_mv rfl rfl ?_
 refine o_p (p_len_slice rfl rfl Tryz.underlying26) ?_
 refine o_p (p_sliceLHM (L := l) (T := tInt) (l := i) (h := j) (m := (l.length : Int)) rfl rfl rfl rfl Tryz.underlying26 sz3 (by omega) (by omega) (by omega) (by omega) (rd_own (i := 1) rfl)) ?_
 refine o_nil (q_then (c_seq (c_seq (c_region ?_))))
 refine o_mv rfl rfl ?_
 refine o_mv rfl rfl ?_
 refine o_p (p_eq rfl rfl) ?_
 refine o_nil (q_then ?_)
 refine c_cond rfl (fun hc1 => ?_) (fun hc1 => ?_)
 ·simp only [beq_iff_eq] at hc1
  refine c_seq (c_region ?_)
  refine o_mv rfl rfl ?_
  refine o_as rfl rfl ?_
  refine o_nil (q_then (c_ret ?_))
  refine q_then_ret ?_
  have hr0 : (l : List Int) = (l.take i.toNat ++ l.drop j.toNat) := by
   first | rfl | (have hij : i = j := (by assumption); subst hij; exact (List.take_append_drop _ _).symm)
  refine q_endX (p := (al, cl, Sl)) (rt1 rfl (r_tmp rfl)) ?_ (fun w hw => ?_)
  ·exact (by have hcc := congrArg (fun (y0 : List Int) => (.slice al y0.length cl : Value)) hr0; exact hcc)
  ·have h2 := hw.pick (H' := [outer w0 [own tInt Sl al cl l], own tInt Sl al cl l]) [0, 1] (by decide) rfl
   exact Eq.mp (congrArg (fun z => HeapIs w0 ((outer w0 [own tInt Sl al cl l]) :: z) w) ((by have hcc := congrArg (fun (y0 : List Int) => ([own tInt Sl al cl y0] : List Ent)) hr0; exact hcc))) h2
 ·simp only [beq_eq_false_iff_ne, ne_eq] at hc1
  refine c_skip (q_then (c_seq (c_region ?_)))
  refine o_mv rfl rfl ?_
  refine o_p (p_len_slice rfl rfl Tryz.underlying26) ?_
  refine o_as rfl rfl ?_
  refine o_nil (q_then (c_seq ?_))
  refine c_cut (G := Unit) (fun _ => [(0, .slice al ((l.take i.toNat) ++ (l.drop j.toNat)).length cl), (7, Vi (l.length : Int))]) (fun _ => [outer w0 [own tInt Sl al cl l], own tInt Sl al cl ((l.take i.toNat) ++ (l.drop j.toNat))]) (fun K hK3 => ?_) ?_
  ·refine c_held hmix [outer w0 [own tInt Sl al cl l]] rfl rfl ?_
   refine h_tk (i := 0) (ls := #[T1,F0,F0,F0,F0,F0,F0,F0]) rfl (p_move rfl) (dp (lj (lz (ln)))) ?_
   refine h_tk (i := 1) (ls := #[T1,T1,F0,F0,F0,F0,F0,F0]) rfl (p_move rfl) (dp (lj (lz (ln)))) ?_
   refine h_tk (i := 3) (ls := #[T1,T1,F0,T1,F0,F0,F0,F0]) rfl (p_move rfl) (dp (lj (lz (ln)))) ?_
   refine h_tk (i := 4) (ls := #[T1,T1,F0,T1,T1,F0,F0,F0]) rfl (p_move rfl) (dp (lj (lz (ln)))) ?_
   refine h_two (i := 2) (j := 5) (ls := #[T1,T1,T1,T1,T1,F0,F0,F0]) (ls' := #[T1,T1,F0,T1,T1,T1,F0,F0]) (by kernel_rfl) rfl rfl rfl rfl ?_ ?_
   ·refine o_p (p_sliceH (L := l) (T := tInt) (h := i) rfl rfl Tryz.underlying26 sz3 (by omega) (by omega) (rd_own (i := 1) rfl)) ?_
    refine o_nil ?_
    refine h_next (dp (lj (lz (ln)))) ?_
    refine h_one (i := 5) (ls := #[T1,T1,T1,T1,T1,T1,F0,F0]) (by kernel_rfl) rfl rfl ?_
    refine o_p (p_sliceL (L := l) (T := tInt) (l := j) rfl rfl Tryz.underlying26 sz3 (by omega) (by omega) (rd_own (i := 1) rfl)) ?_
    refine o_nil ?_
    refine h_next (dp (lj (lz (ln)))) ?_
    refine h_one (i := 6) (ls := #[T1,T1,T1,T1,T1,T1,T1,F0]) (by kernel_rfl) rfl rfl ?_
    refine o_appendIn (i := 1) (m := i.toNat) (L := l) (M := (l.drop j.toNat)) (T := tInt) rfl rfl rfl (by omega) (rd_dropC (l := j.toNat) (rd_own (i := 1) rfl) (by omega)) Tryz.underlying26 Tryz.underlying26 (by intro k h; cases h) el3 (by intro z; simp [tInt, one1]) (by first | (simp only [List.length_drop]; omega) | (simp; omega)) rfl ?_
    refine o_nil ?_
    refine h_next (dp (lj (lz (ln)))) ?_
    refine h_tk (i := 7) (ls := #[T1,T1,T1,T1,T1,T1,T1,T1]) rfl (p_assign rfl) (dp (lj (lz (ln)))) ?_
    refine h_done (by kernel_rfl) ?_
    refine q_kont hK3 () (sr (sr (Sub.nil _))) (pk [0, 1])
   ·refine o_p (p_sliceL (L := l) (T := tInt) (l := j) rfl rfl Tryz.underlying26 sz3 (by omega) (by omega) (rd_own (i := 1) rfl)) ?_
    refine o_nil ?_
    refine h_next (dp (lj (lz (ln)))) ?_
    refine h_one (i := 2) (ls := #[T1,T1,T1,T1,T1,T1,F0,F0]) (by kernel_rfl) rfl rfl ?_
    refine o_p (p_sliceH (L := l) (T := tInt) (h := i) rfl rfl Tryz.underlying26 sz3 (by omega) (by omega) (rd_own (i := 1) rfl)) ?_
    refine o_nil ?_
    refine h_next (dp (lj (lz (ln)))) ?_
    refine h_one (i := 6) (ls := #[T1,T1,T1,T1,T1,T1,T1,F0]) (by kernel_rfl) rfl rfl ?_
    refine o_appendIn (i := 1) (m := i.toNat) (L := l) (M := (l.drop j.toNat)) (T := tInt) rfl rfl rfl (by omega) (rd_dropC (l := j.toNat) (rd_own (i := 1) rfl) (by omega)) Tryz.underlying26 Tryz.underlying26 (by intro k h; cases h) el3 (by intro z; simp [tInt, one1]) (by first | (simp only [List.length_drop]; omega) | (simp; omega)) rfl ?_
    refine o_nil ?_
    refine h_next (dp (lj (lz (ln)))) ?_
    refine h_tk (i := 7) (ls := #[T1,T1,T1,T1,T1,T1,T1,T1]) rfl (p_assign rfl) (dp (lj (lz (ln)))) ?_
    refine h_done (by kernel_rfl) ?_
    refine q_kont hK3 () (sr (sr (Sub.nil _))) (pk [0, 1])
  rintro _
  show SQ _ 33 w0 _ _ [(0, .slice al ((l.take i.toNat) ++ (l.drop j.toNat)).length cl), (7, Vi (l.length : Int))] [outer w0 [own tInt Sl al cl l], own tInt Sl al cl ((l.take i.toNat) ++ (l.drop j.toNat))]
  refine q_cast (F' := [(0, .slice al ((l.take i.toNat) ++ (l.drop j.toNat)).length cl), (7, Vi (l.length : Int))]) (H := [outer w0 [own tInt Sl al cl l], own tInt Sl al cl ((l.take i.toNat) ++ (l.drop j.toNat))]) (H' := [outer w0 [own tInt Sl al cl l], own tInt Sl al cl ((l.take i.toNat) ++ (l.drop j.toNat))]) (sr (sr (Sub.nil _))) (by rfl) ?_
  refine q_then (c_seq (c_region ?_))
  refine o_mv rfl rfl ?_
  refine o_mv rfl rfl ?_
  refine o_p (p_len_slice rfl rfl Tryz.underlying26) ?_
  refine o_mv rfl rfl ?_
  refine o_p (p_sliceTail (i := 1) (L := ((l.take i.toNat) ++ (l.drop j.toNat))) (T := tInt) (h := (l.length : Int)) (m := (l.length - (l.take i.toNat ++ l.drop j.toNat).length)) rfl rfl rfl rfl Tryz.underlying26 sz3 (by simp only [List.length_append, List.length_take, List.length_drop]; omega)) ?_
  refine o_clearTail (i := 1) (T := tInt) (m := (l.length - (l.take i.toNat ++ l.drop j.toNat).length)) rfl rfl rfl Tryz.underlying26 ze3 rfl rfl (by first | omega | (simp only [List.length_append, List.length_take, List.length_drop]; omega)) ?_
  refine o_nil (q_then (c_seq (c_region ?_)))
  refine o_mv rfl rfl ?_
  refine o_as rfl rfl ?_
  refine o_nil (q_then (c_ret ?_))
  have hr0 : (((l.take i.toNat) ++ (l.drop j.toNat)) : List Int) = (l.take i.toNat ++ l.drop j.toNat) := by
   first | rfl | (have hij : i = j := (by assumption); subst hij; exact (List.take_append_drop _ _).symm)
  refine q_endX (p := (al, cl, Sl)) (rt1 rfl (r_tmp rfl)) ?_ (fun w hw => ?_)
  ·exact (by have hcc := congrArg (fun (y0 : List Int) => (.slice al y0.length cl : Value)) hr0; exact hcc)
  ·have h2 := hw.pick (H' := [outer w0 [own tInt Sl al cl l], own tInt Sl al cl ((l.take i.toNat) ++ (l.drop j.toNat))]) [0, 1] (by decide) rfl
   exact Eq.mp (congrArg (fun z => HeapIs w0 ((outer w0 [own tInt Sl al cl l]) :: z) w) ((by have hcc := congrArg (fun (y0 : List Int) => ([own tInt Sl al cl y0] : List Ent)) hr0; exact hcc))) h2

set_option maxHeartbeats 8000000 in
set_option maxRecDepth 100000 in
theorem insert_Int_ok (l : List Int) (al : Option Addr) (cl : Nat) (Sl : Nat → Prop) (i : Int) (v : List Int) (av : Option Addr) (cv : Nat) (Sv : Nat → Prop) (hy1 : 0 ≤ i ∧ i ≤ (l.length : Int) ∧ l.length ≤ 1000000 ∧ v.length = 1) : FnX Tryz.prog 43 [.slice al l.length cl, Vi i, .slice av v.length cv] [own tInt Sl al cl l, own tInt Sv av cv v] (fun _ => True) (Option Addr × Nat × (Nat → Prop)) (fun p => .slice p.1 (l.take i.toNat ++ v ++ l.drop i.toNat).length p.2.1) (fun p => [own tInt p.2.2 p.1 p.2.1 (l.take i.toNat ++ v ++ l.drop i.toNat)]) := by
 refine fnX (nt := 95) (F0 := [(0, .slice al l.length cl), (1, Vi i), (2, .slice av v.length cv)]) Tryz.func43 rfl Tryz.ntmps43 rfl rfl (fun w0 hpre => ?_)
 refine c_know (fun w hw => own_len (i := 1) (T := tInt) hw rfl) (fun hlown_l => ?_)
 obtain ⟨hcown_l, hlown_l⟩ := hlown_l
 refine c_know (fun w hw => own_len (i := 2) (T := tInt) hw rfl) (fun hlown_v => ?_)
 obtain ⟨hcown_v, hlown_v⟩ := hlown_v
 refine c_seq (c_region ?_)
 refine o_as rfl rfl ?_
 refine o_nil (q_then (c_seq (c_region ?_)))
 refine o_mv rfl rfl ?_
 refine o_mv rfl rfl ?_
 refine o_p (p_sliceL (L := l) (T := tInt) (l := i) rfl rfl Tryz.underlying26 sz3 (by first | omega | (simp only [List.length_append, List.length_take, List.length_replicate, List.length_drop, List.length_set]; omega)) (by first | omega | (simp only [List.length_append, List.length_take, List.length_replicate, List.length_drop, List.length_set]; omega)) (rd_own (i := 1) rfl)) ?_
 refine o_nil (q_then (c_seq (c_region ?_)))
 refine o_mv rfl rfl ?_
 refine o_p (p_len_slice rfl rfl Tryz.underlying26) ?_
 refine o_as rfl rfl ?_
 refine o_nil (q_then (c_seq (c_seq (c_region ?_))))
 refine o_mv rfl rfl ?_
 refine o_p (p_eq rfl rfl) ?_
 refine o_nil (q_then ?_)
 refine c_cond rfl (fun hc1 => ?_) (fun hc1 => ?_)
 ·simp only [beq_iff_eq] at hc1
  exfalso; omega
 ·simp only [beq_eq_false_iff_ne, ne_eq] at hc1
  refine c_skip (q_then (c_seq (c_region ?_)))
  refine o_mv rfl rfl ?_
  refine o_p (p_len_slice rfl rfl Tryz.underlying26) ?_
  refine o_as rfl rfl ?_
  refine o_nil (q_then (c_seq (c_seq (c_region ?_))))
  refine o_mv rfl rfl ?_
  refine o_mv rfl rfl ?_
  refine o_p (p_eq rfl rfl) ?_
  refine o_nil (q_then ?_)
  refine c_cond rfl (fun hc2 => ?_) (fun hc2 => ?_)
  ·simp only [beq_iff_eq] at hc2
   refine c_seq (c_region ?_)
   refine o_mv rfl rfl ?_
   refine o_mv rfl rfl ?_
   refine o_append (i := 1) (L := l) (M := v) (T := tInt) rfl rfl rfl (rd_own (i := 2) rfl) Tryz.underlying26 Tryz.underlying26 (by intro k h; cases h) el3 (by intro z; simp [tInt, one1]) (by decide) (by first | omega | (simp only [List.length_cons, List.length_nil]; omega) | (simp only [List.length_append, List.length_cons, List.length_nil, List.length_take, List.length_drop]; omega)) rfl (fun a3 c4 S5 => ?_)
   refine o_as rfl rfl ?_
   refine o_nil (q_then (c_ret ?_))
   refine q_then_ret ?_
   have hr0 : ((l ++ v) : List Int) = (l.take i.toNat ++ v ++ l.drop i.toNat) := by
    first | rfl | (obtain rfl : i = (l.length : Int) := (by assumption); simp)
   refine q_endX (p := (a3, c4, S5)) (rt1 rfl (r_tmp rfl)) ?_ (fun w hw => ?_)
   ·exact (by have hcc := congrArg (fun (y0 : List Int) => (.slice a3 y0.length c4 : Value)) hr0; exact hcc)
   ·have h2 := hw.pick (H' := [outer w0 [own tInt Sl al cl l, own tInt Sv av cv v], own tInt S5 a3 c4 (l ++ v)]) [0, 1] (by decide) rfl
    exact Eq.mp (congrArg (fun z => HeapIs w0 ((outer w0 [own tInt Sl al cl l, own tInt Sv av cv v]) :: z) w) ((by have hcc := congrArg (fun (y0 : List Int) => ([own tInt S5 a3 c4 y0] : List Ent)) hr0; exact hcc))) h2
  ·simp only [beq_eq_false_iff_ne, ne_eq] at hc2
   refine c_skip (q_then (c_seq (c_seq (c_region ?_))))
   refine o_mv rfl rfl ?_
   refine o_mv rfl rfl ?_
   refine o_p (p_addb rfl rfl (by omega)) ?_
   refine o_mv rfl rfl ?_
   refine o_p (p_cap_slice rfl rfl Tryz.underlying26) ?_
   refine o_p (p_gt rfl rfl) ?_
   refine o_nil (q_then ?_)
   refine c_cond rfl (fun hc6 => ?_) (fun hc6 => ?_)
   ·simp only [decide_eq_true_eq] at hc6
    refine c_seq (c_region ?_)
    refine o_mv rfl rfl ?_
    refine o_mv rfl rfl ?_
    refine o_p (p_sliceH (L := l) (T := tInt) (h := i) rfl rfl Tryz.underlying26 sz3 (by first | omega | (simp only [List.length_append, List.length_take, List.length_replicate, List.length_drop, List.length_set]; omega)) (by first | omega | (simp only [List.length_append, List.length_take, List.length_replicate, List.length_drop, List.length_set]; omega)) (rd_own (i := 1) rfl)) ?_
    refine o_mv rfl rfl ?_
    refine o_mv rfl rfl ?_
    refine o_p (p_addb rfl rfl (by omega)) ?_
    refine o_mv rfl rfl ?_
    refine o_p (p_subb rfl rfl (by omega)) ?_
    refine o_appendZ (i := 1) (m := i.toNat) (k := (l.length + v.length - i.toNat)) (L := l) (T := tInt) (z := 0) rfl rfl rfl (by omega) Tryz.underlying26 Tryz.underlying3 el3 ze3 rfl (by decide) (by omega) rfl (fun a7 c8 S9 => ?_)
    refine o_know (fun w hw => own_len (i := 0) (T := tInt) hw rfl) (fun hlz11 => ?_)
    have hlz11b : ((l.take i.toNat) ++ (List.replicate (l.length + v.length - i.toNat) 0)).length = l.length + v.length := by simp only [List.length_append, List.length_take, List.length_replicate, List.length_drop, List.length_set]; omega
    refine o_as rfl rfl ?_
    refine o_nil (q_then (c_seq (c_region ?_)))
    refine o_mv rfl rfl ?_
    refine o_mv rfl rfl ?_
    refine o_p (p_sliceL (L := ((l.take i.toNat) ++ (List.replicate (l.length + v.length - i.toNat) 0))) (T := tInt) (l := i) rfl rfl Tryz.underlying26 sz3 (by first | omega | (simp only [List.length_append, List.length_take, List.length_replicate, List.length_drop, List.length_set]; omega)) (by first | omega | (simp only [List.length_append, List.length_take, List.length_replicate, List.length_drop, List.length_set]; omega)) (rd_own (i := 0) rfl)) ?_
    refine o_mv rfl rfl ?_
    refine o_copy (i := 0) (lo := i.toNat) (M := v) (T := tInt) (L := ((l.take i.toNat) ++ (List.replicate (l.length + v.length - i.toNat) 0))) (m := 1) (F' := [(0, .slice al l.length cl), (1, Vi i), (7, Vi (v.length : Int)), (9, .slice a7 (l.take i.toNat ++ v ++ List.replicate (l.length - i.toNat) 0).length c8)]) rfl rfl rfl (rd_own (i := 3) rfl) (by (try simp only [List.length_append, List.length_take, List.length_replicate, List.length_drop, List.length_set]); omega) Tryz.underlying26 sz3 (by intro z; simp [tInt, one1]) (by (try simp only [List.length_append, List.length_take, List.length_replicate, List.length_drop, List.length_set]); omega) rfl (by omega) (sr (sr (sr (Sub.cons (by show some _ = some _; congr 2; first | (simp; omega) | simp) (Sub.nil _))))) ?_
    refine o_asH (H := [own tInt S9 a7 c8 (((l.take i.toNat) ++ (List.replicate (l.length + v.length - i.toNat) 0)).take i.toNat ++ v ++ ((l.take i.toNat) ++ (List.replicate (l.length + v.length - i.toNat) 0)).drop (i.toNat + v.length)), outer w0 [own tInt Sl al cl l, own tInt Sv av cv v], own tInt Sl al cl l, own tInt Sv av cv v]) (H' := [own tInt S9 a7 c8 (l.take i.toNat ++ v ++ List.replicate (l.length - i.toNat) 0), outer w0 [own tInt Sl al cl l, own tInt Sv av cv v], own tInt Sl al cl l, own tInt Sv av cv v]) (by have hins : ((((l.take i.toNat) ++ (List.replicate (l.length + v.length - i.toNat) 0)).take i.toNat ++ v ++ ((l.take i.toNat) ++ (List.replicate (l.length + v.length - i.toNat) 0)).drop (i.toNat + v.length)) : List Int) = (l.take i.toNat ++ v ++ List.replicate (l.length - i.toNat) 0) := (by exact ins_a (by omega) (by omega)); rw [hins]) ?_
    refine o_nil (q_then (c_seq ?_))
    refine c_held hmix [ownE tInt S9 a7 c8 ((l.take i.toNat ++ v ++ List.replicate (l.length - i.toNat) 0).length), outer w0 [own tInt Sl al cl l, own tInt Sv av cv v], own tInt Sl al cl l, own tInt Sv av cv v] rfl rfl ?_
    refine h_tk (i := 0) (ls := #[T1,F0,F0,F0,F0,F0,F0,F0,F0]) rfl (p_move rfl) (fun _ hw => HeapIs.drop (HeapIs.toE (i := 0) (m := (l.take i.toNat ++ v ++ List.replicate (l.length - i.toNat) 0).length) (T := tInt) rfl (by first | rfl | (simp; done) | (simp; omega)) hw) (lr)) ?_
    refine h_tk (i := 1) (ls := #[T1,T1,F0,F0,F0,F0,F0,F0,F0]) rfl (p_move rfl) (fun _ hw => HeapIs.drop (HeapIs.toE (i := 0) (m := (l.take i.toNat ++ v ++ List.replicate (l.length - i.toNat) 0).length) (T := tInt) rfl (by first | rfl | (simp; done) | (simp; omega)) hw) (lr)) ?_
    refine h_tk (i := 2) (ls := #[T1,T1,T1,F0,F0,F0,F0,F0,F0]) rfl (p_move rfl) (fun _ hw => HeapIs.drop (HeapIs.toE (i := 0) (m := (l.take i.toNat ++ v ++ List.replicate (l.length - i.toNat) 0).length) (T := tInt) rfl (by first | rfl | (simp; done) | (simp; omega)) hw) (lr)) ?_
    refine h_tk (i := 3) (ls := #[T1,T1,T1,T1,F0,F0,F0,F0,F0]) rfl (p_addb rfl rfl (by omega)) (fun _ hw => HeapIs.drop (HeapIs.toE (i := 0) (m := (l.take i.toNat ++ v ++ List.replicate (l.length - i.toNat) 0).length) (T := tInt) rfl (by first | rfl | (simp; done) | (simp; omega)) hw) (lr)) ?_
    refine h_tk (i := 4) (ls := #[T1,T1,T1,T1,T1,F0,F0,F0,F0]) rfl (p_sliceLE (j := 0) (m := (l.take i.toNat ++ v ++ List.replicate (l.length - i.toNat) 0).length) (T := tInt) (l := (i + (v.length : Int))) rfl rfl rfl Tryz.underlying26 sz3 (by omega) (by first | omega | (simp; omega))) (fun _ hw => HeapIs.drop (HeapIs.toE (i := 0) (m := (l.take i.toNat ++ v ++ List.replicate (l.length - i.toNat) 0).length) (T := tInt) rfl (by first | rfl | (simp; done) | (simp; omega)) hw) (lr)) ?_
    refine h_tk (i := 5) (ls := #[T1,T1,T1,T1,T1,T1,F0,F0,F0]) rfl (p_move rfl) (fun _ hw => HeapIs.drop (HeapIs.toE (i := 0) (m := (l.take i.toNat ++ v ++ List.replicate (l.length - i.toNat) 0).length) (T := tInt) rfl (by first | rfl | (simp; done) | (simp; omega)) hw) (lr)) ?_
    refine h_tk (i := 6) (ls := #[T1,T1,T1,T1,T1,T1,T1,F0,F0]) rfl (p_move rfl) (fun _ hw => HeapIs.drop (HeapIs.toE (i := 0) (m := (l.take i.toNat ++ v ++ List.replicate (l.length - i.toNat) 0).length) (T := tInt) rfl (by first | rfl | (simp; done) | (simp; omega)) hw) (lr)) ?_
    refine h_tk (i := 7) (ls := #[T1,T1,T1,T1,T1,T1,T1,T1,F0]) rfl (p_sliceL (L := l) (T := tInt) (l := i) rfl rfl Tryz.underlying26 sz3 (by first | omega | (simp only [List.length_append, List.length_take, List.length_replicate, List.length_drop, List.length_set]; omega)) (by first | omega | (simp only [List.length_append, List.length_take, List.length_replicate, List.length_drop, List.length_set]; omega)) (rd_own (i := 2) rfl)) (fun _ hw => HeapIs.drop (HeapIs.toE (i := 0) (m := (l.take i.toNat ++ v ++ List.replicate (l.length - i.toNat) 0).length) (T := tInt) rfl (by first | rfl | (simp; done) | (simp; omega)) hw) (lr)) ?_
    refine h_one (i := 8) (ls := #[T1,T1,T1,T1,T1,T1,T1,T1,T1]) (by kernel_rfl) rfl rfl ?_
    refine o_copy (i := 0) (lo := (i + (v.length : Int)).toNat) (M := (l.drop i.toNat)) (T := tInt) (L := (l.take i.toNat ++ v ++ List.replicate (l.length - i.toNat) 0)) (m := (l.length - i.toNat)) (F' := [(0, .slice al l.length cl), (1, Vi i), (7, Vi (v.length : Int)), (9, .slice a7 (l.take i.toNat ++ v ++ l.drop i.toNat).length c8)]) rfl rfl rfl (rd_dropC (l := i.toNat) (rd_own (i := 2) rfl) (by first | omega | (simp only [List.length_append, List.length_take, List.length_replicate, List.length_drop, List.length_set]; omega))) (by (try simp only [List.length_append, List.length_take, List.length_replicate, List.length_drop, List.length_set]); omega) Tryz.underlying26 sz3 (by intro z; simp [tInt, one1]) (by (try simp only [List.length_append, List.length_take, List.length_replicate, List.length_drop, List.length_set]); omega) rfl (by simp) (sr (sr (sr (Sub.cons (by show some _ = some _; congr 2; first | (simp; omega) | simp) (Sub.nil _))))) ?_
    refine o_asH (H := [own tInt S9 a7 c8 ((l.take i.toNat ++ v ++ List.replicate (l.length - i.toNat) 0).take ((i + (v.length : Int)).toNat) ++ (l.drop i.toNat) ++ (l.take i.toNat ++ v ++ List.replicate (l.length - i.toNat) 0).drop (((i + (v.length : Int)).toNat) + (l.drop i.toNat).length)), outer w0 [own tInt Sl al cl l, own tInt Sv av cv v], own tInt Sl al cl l, own tInt Sv av cv v]) (H' := [own tInt S9 a7 c8 (l.take i.toNat ++ v ++ l.drop i.toNat), outer w0 [own tInt Sl al cl l, own tInt Sv av cv v], own tInt Sl al cl l, own tInt Sv av cv v]) (by have hins : (((l.take i.toNat ++ v ++ List.replicate (l.length - i.toNat) 0).take ((i + (v.length : Int)).toNat) ++ (l.drop i.toNat) ++ (l.take i.toNat ++ v ++ List.replicate (l.length - i.toNat) 0).drop (((i + (v.length : Int)).toNat) + (l.drop i.toNat).length)) : List Int) = (l.take i.toNat ++ v ++ l.drop i.toNat) := (by exact ins_b (by omega) (by omega) (by omega)); rw [hins]) ?_
    refine o_nil ?_
    refine h_next (fun _ hw => HeapIs.drop (HeapIs.toE (i := 0) (m := (l.take i.toNat ++ v ++ List.replicate (l.length - i.toNat) 0).length) (T := tInt) rfl (by first | rfl | (simp; done) | (simp; omega)) hw) (lr)) ?_
    refine h_done (by kernel_rfl) ?_
    refine q_cast (F' := [(9, .slice a7 (l.take i.toNat ++ v ++ l.drop i.toNat).length c8)]) (H := [own tInt S9 a7 c8 (l.take i.toNat ++ v ++ l.drop i.toNat), outer w0 [own tInt Sl al cl l, own tInt Sv av cv v], own tInt Sl al cl l, own tInt Sv av cv v]) (H' := [own tInt S9 a7 c8 (l.take i.toNat ++ v ++ l.drop i.toNat), outer w0 [own tInt Sl al cl l, own tInt Sv av cv v], own tInt Sl al cl l, own tInt Sv av cv v]) (sr (Sub.nil _)) (by rfl) ?_
    refine q_then (c_seq (c_region ?_))
    refine o_mv rfl rfl ?_
    refine o_as rfl rfl ?_
    refine o_nil (q_then (c_ret ?_))
    refine q_then_ret ?_
    refine q_endX (p := (a7, c8, S9)) (rt1 rfl (r_tmp rfl)) ?_ (fun w hw => ?_)
    ·exact rfl
    ·have h2 := hw.pick (H' := [outer w0 [own tInt Sl al cl l, own tInt Sv av cv v], own tInt S9 a7 c8 (l.take i.toNat ++ v ++ l.drop i.toNat)]) [1, 0] (by decide) rfl
     exact Eq.mp (congrArg (fun z => HeapIs w0 ((outer w0 [own tInt Sl al cl l, own tInt Sv av cv v]) :: z) w) (rfl)) h2
   ·simp only [decide_eq_false_iff_not, Int.not_lt] at hc6
    refine c_skip (q_then (c_seq (c_region ?_)))
    refine o_mv rfl rfl ?_
    refine o_mv rfl rfl ?_
    refine o_mv rfl rfl ?_
    refine o_p (p_addb rfl rfl (by omega)) ?_
    refine o_p (p_slice0 (hi := (l.length + v.length)) (hv := ((l.length : Int) + (v.length : Int))) rfl rfl Tryz.underlying26 sz3 (by omega) (by omega)) ?_
    refine o_as rfl rfl ?_
    refine o_nil (q_then (c_seq (c_seq (c_region ?_))))
    refine o_mv rfl rfl ?_
    refine o_mv rfl rfl ?_
    refine o_mv rfl rfl ?_
    refine o_mv rfl rfl ?_
    refine o_p (p_addb rfl rfl (by omega)) ?_
    refine o_p (p_slice (l := (i.toNat + 1)) (hi := (l.length + v.length)) (m := cl) (lv := some (Vi (i + (v.length : Int)))) (hv := none) (mv := none) rfl rfl rfl rfl Tryz.underlying26 sz3 (.inr ⟨.i64, by congr 1; congr 1; omega⟩) (.inl ⟨rfl, rfl⟩) (.inl ⟨rfl, rfl⟩) (fun _ => rfl) (by omega) (by omega) (Nat.le_refl _) rfl) ?_
    refine o_p (p_overlaps (tS := 26) (tR := 4) (i := 1) (j := 2) (lo := (i.toNat + 1)) (M := v) Tryz.func70 (by kernel_rfl) (by kernel_rfl) (by kernel_rfl) (by kernel_rfl) rfl rfl rfl rfl (by decide) Tryz.underlying26 sz3 (by omega) (by omega) (by decide)) ?_
    refine o_p (p_not (b := false) rfl) ?_
    refine o_nil (q_then ?_)
    refine c_true rfl ?_
    refine c_seq ?_
    refine c_held hmix [outer w0 [own tInt Sl al cl l, own tInt Sv av cv v], own tInt Sv av cv v] rfl rfl ?_
    refine h_tk (i := 0) (ls := #[T1,F0,F0,F0,F0,F0,F0,F0,F0]) rfl (p_move rfl) (dp (lj (lz (lj (ln))))) ?_
    refine h_tk (i := 1) (ls := #[T1,T1,F0,F0,F0,F0,F0,F0,F0]) rfl (p_move rfl) (dp (lj (lz (lj (ln))))) ?_
    refine h_tk (i := 2) (ls := #[T1,T1,T1,F0,F0,F0,F0,F0,F0]) rfl (p_move rfl) (dp (lj (lz (lj (ln))))) ?_
    refine h_tk (i := 3) (ls := #[T1,T1,T1,T1,F0,F0,F0,F0,F0]) rfl (p_addb rfl rfl (by omega)) (dp (lj (lz (lj (ln))))) ?_
    refine h_tk (i := 4) (ls := #[T1,T1,T1,T1,T1,F0,F0,F0,F0]) rfl (p_slice (l := (i.toNat + 1)) (hi := (l.length + v.length)) (m := cl) (lv := some (Vi (i + (v.length : Int)))) (hv := none) (mv := none) rfl rfl rfl rfl Tryz.underlying26 sz3 (.inr ⟨.i64, by congr 1; congr 1; omega⟩) (.inl ⟨rfl, rfl⟩) (.inl ⟨rfl, rfl⟩) (fun _ => rfl) (by omega) (by omega) (Nat.le_refl _) rfl) (dp (lj (lz (lj (ln))))) ?_
    refine h_tk (i := 5) (ls := #[T1,T1,T1,T1,T1,T1,F0,F0,F0]) rfl (p_move rfl) (dp (lj (lz (lj (ln))))) ?_
    refine h_tk (i := 6) (ls := #[T1,T1,T1,T1,T1,T1,T1,F0,F0]) rfl (p_move rfl) (dp (lj (lz (lj (ln))))) ?_
    refine h_tk (i := 7) (ls := #[T1,T1,T1,T1,T1,T1,T1,T1,F0]) rfl (p_slice (l := i.toNat) (hi := (l.length + v.length)) (m := cl) (lv := some (Vi i)) (hv := none) (mv := none) rfl rfl rfl rfl Tryz.underlying26 sz3 (.inr ⟨.i64, by congr 1; congr 1; omega⟩) (.inl ⟨rfl, rfl⟩) (.inl ⟨rfl, rfl⟩) (fun _ => rfl) (by omega) (by omega) (Nat.le_refl _) rfl) (dp (lj (lz (lj (ln))))) ?_
    refine h_one (i := 8) (ls := #[T1,T1,T1,T1,T1,T1,T1,T1,T1]) (by kernel_rfl) rfl rfl ?_
    refine o_copy (i := 1) (lo := (i.toNat + 1)) (M := (l.drop i.toNat)) (T := tInt) (L := l) (m := (l.length - i.toNat)) (F' := [(0, .slice al (l.take (i.toNat + 1) ++ l.drop i.toNat).length cl), (1, Vi i), (2, .slice av v.length cv), (7, Vi (v.length : Int)), (8, Vi (l.length : Int)), (68, .bool true)]) rfl rfl rfl (rd_dropC (l := i.toNat) (rd_own (i := 1) rfl) (by omega)) (by (try simp only [List.length_append, List.length_take, List.length_replicate, List.length_drop, List.length_set]); omega) Tryz.underlying26 sz3 (by intro z; simp [tInt, one1]) (by (try simp only [List.length_append, List.length_take, List.length_replicate, List.length_drop, List.length_set]); omega) rfl (by simp) (Sub.cons (by show some _ = some _; congr 2; first | (simp; omega) | simp) (sr (sr (sr (sr (sr (Sub.nil _))))))) ?_
    refine o_asH (H := [outer w0 [own tInt Sl al cl l, own tInt Sv av cv v], own tInt Sl al cl (l.take (i.toNat + 1) ++ (l.drop i.toNat) ++ l.drop ((i.toNat + 1) + (l.drop i.toNat).length)), own tInt Sv av cv v]) (H' := [outer w0 [own tInt Sl al cl l, own tInt Sv av cv v], own tInt Sl al cl (l.take (i.toNat + 1) ++ l.drop i.toNat), own tInt Sv av cv v]) (by have hins : ((l.take (i.toNat + 1) ++ (l.drop i.toNat) ++ l.drop ((i.toNat + 1) + (l.drop i.toNat).length)) : List Int) = (l.take (i.toNat + 1) ++ l.drop i.toNat) := (by exact ins_c (by omega) (by omega)); rw [hins]) ?_
    refine o_nil ?_
    refine h_next (dp (lj (lz (lj (ln))))) ?_
    refine h_done (by kernel_rfl) ?_
    refine q_cast (F' := [(0, .slice al (l.take (i.toNat + 1) ++ l.drop i.toNat).length cl), (1, Vi i), (2, .slice av v.length cv)]) (H := [outer w0 [own tInt Sl al cl l, own tInt Sv av cv v], own tInt Sl al cl (l.take (i.toNat + 1) ++ l.drop i.toNat), own tInt Sv av cv v]) (H' := [outer w0 [own tInt Sl al cl l, own tInt Sv av cv v], own tInt Sl al cl (l.take (i.toNat + 1) ++ l.drop i.toNat), own tInt Sv av cv v]) (sr (sr (sr (Sub.nil _)))) (by rfl) ?_
    refine q_then (c_seq (c_region ?_))
    refine o_mv rfl rfl ?_
    refine o_mv rfl rfl ?_
    refine o_p (p_sliceL (L := (l.take (i.toNat + 1) ++ l.drop i.toNat)) (T := tInt) (l := i) rfl rfl Tryz.underlying26 sz3 (by first | omega | (simp only [List.length_append, List.length_take, List.length_replicate, List.length_drop, List.length_set]; omega)) (by first | omega | (simp only [List.length_append, List.length_take, List.length_replicate, List.length_drop, List.length_set]; omega)) (rd_own (i := 1) rfl)) ?_
    refine o_mv rfl rfl ?_
    refine o_copy (i := 1) (lo := i.toNat) (M := v) (T := tInt) (L := (l.take (i.toNat + 1) ++ l.drop i.toNat)) (m := 1) (F' := [(0, .slice al (l.take i.toNat ++ v ++ l.drop i.toNat).length cl)]) rfl rfl rfl (rd_own (i := 2) rfl) (by (try simp only [List.length_append, List.length_take, List.length_replicate, List.length_drop, List.length_set]); omega) Tryz.underlying26 sz3 (by intro z; simp [tInt, one1]) (by (try simp only [List.length_append, List.length_take, List.length_replicate, List.length_drop, List.length_set]); omega) rfl (by omega) (Sub.cons (by show some _ = some _; congr 2; first | (simp; omega) | simp) (Sub.nil _)) ?_
    refine o_asH (H := [outer w0 [own tInt Sl al cl l, own tInt Sv av cv v], own tInt Sl al cl ((l.take (i.toNat + 1) ++ l.drop i.toNat).take i.toNat ++ v ++ (l.take (i.toNat + 1) ++ l.drop i.toNat).drop (i.toNat + v.length)), own tInt Sv av cv v]) (H' := [outer w0 [own tInt Sl al cl l, own tInt Sv av cv v], own tInt Sl al cl (l.take i.toNat ++ v ++ l.drop i.toNat), own tInt Sv av cv v]) (by have hins : (((l.take (i.toNat + 1) ++ l.drop i.toNat).take i.toNat ++ v ++ (l.take (i.toNat + 1) ++ l.drop i.toNat).drop (i.toNat + v.length)) : List Int) = (l.take i.toNat ++ v ++ l.drop i.toNat) := (by exact ins_d (by omega) (by omega)); rw [hins]) ?_
    refine o_nil (q_then (c_seq (c_region ?_)))
    refine o_mv rfl rfl ?_
    refine o_as rfl rfl ?_
    refine o_nil (q_then (c_ret ?_))
    refine q_then_ret ?_
    refine q_endX (p := (al, cl, Sl)) (rt1 rfl (r_tmp rfl)) ?_ (fun w hw => ?_)
    ·exact rfl
    ·have h2 := hw.pick (H' := [outer w0 [own tInt Sl al cl l, own tInt Sv av cv v], own tInt Sl al cl (l.take i.toNat ++ v ++ l.drop i.toNat)]) [0, 1] (by decide) rfl
     exact Eq.mp (congrArg (fun z => HeapIs w0 ((outer w0 [own tInt Sl al cl l, own tInt Sv av cv v]) :: z) w) (rfl)) h2

set_option maxHeartbeats 8000000 in
set_option maxRecDepth 100000 in
theorem keys_ok (l : List Int) (al : Option Addr) (cl : Nat) : Fn0 Tryz.prog 37 [.slice al l.length cl] (fun w => Rd tInt w al cl l) (Vi (Lru.keys l)) := by
 refine fn0 (nt := 29) (F0 := [(0, .slice al l.length cl)]) Tryz.func37 rfl Tryz.ntmps37 rfl rfl (fun w0 hpre => ?_)
 have hl := hpre
 have hlhl := hl.2.1
 refine c_seq (c_region ?_)
 refine o_as rfl rfl ?_
 refine o_nil (q_then (c_seq (c_region ?_)))
 refine o_makeMap (ν := Unit) kInt (fun _ => .agg #[]) rfl (fun B1 => ?_)
 refine o_as rfl rfl ?_
 refine o_nil (q_then (c_seq (c_seq (c_region ?_))))
 refine o_mv rfl rfl ?_
 refine o_p (p_len_slice rfl rfl Tryz.underlying26) ?_
 refine o_mv rfl rfl ?_
 refine o_nil (q_then (c_block ?_))
 refine c_loop (St := Nat × List (Int × Unit))
  (fun ⟨k, m⟩ => [(3, .map (some B1)), (9, .slice al l.length cl), (10, Vi (l.length : Int)), (11, Vi (k : Int))])
  (fun ⟨k, m⟩ => [mapE kInt (fun _ => .agg #[]) B1 m, base w0])
  (fun ⟨k, m⟩ => k ≤ l.length ∧ Lru.keysGo (l.take k) (l.drop k) = Lru.keys l ∧ Lru.Seen m l k)
  (fun ⟨k, m⟩ => l.length - k)
  (0, []) ?_ (sr (sr (sr (sr (Sub.nil _))))) (fun _ hw => hw) ?_
 ·exact ⟨Nat.zero_le _, rfl, Lru.Seen.start l⟩
 rintro ⟨k, m⟩ hI K hK2
 obtain ⟨hI1, hI2, hI3⟩ := hI
 show SC _ _ Tryz.prog 29 w0 _ _ [(3, .map (some B1)), (9, .slice al l.length cl), (10, Vi (l.length : Int)), (11, Vi (k : Int))] [mapE kInt (fun _ => .agg #[]) B1 m, base w0]
 refine c_seq (c_region ?_)
 refine o_p (p_lt rfl rfl) ?_
 refine o_nil (q_then (c_seq ?_))
 refine c_cond rfl (fun hc3 => ?_) (fun hc3 => ?_)
 ·simp only [decide_eq_true_eq] at hc3
  refine c_skip (q_then (c_seq (c_block (c_seq (c_region ?_)))))
  refine o_p (p_indexAddr (L := l) (T := tInt) (i := (k : Int)) rfl rfl (rd_base (i := 1) rfl hl) Tryz.underlying26 sz3 (by omega) (by omega)) ?_
  refine o_p (p_loadE1 (i := k) (T := tInt) (L := l) (v := Vi (l[k])) rfl (rd_base (i := 1) rfl hl) (by first | assumption | omega) sh3 rfl) ?_
  refine o_as rfl rfl ?_
  refine o_nil (q_then (c_seq (c_seq (c_region ?_))))
  refine o_mv rfl rfl ?_
  refine o_call0 (v := .bool (Lru.okKey (l[k]))) rfl (key_ok (l[k])) hf26 (fun _ _ => trivial) rfl ?_
  refine o_p (p_not (b := (Lru.okKey (l[k]))) rfl) ?_
  refine o_nil (q_then ?_)
  refine c_cond rfl (fun hc4 => ?_) (fun hc4 => ?_)
  ·simp only [Bool.not_eq_true'] at hc4
   refine c_seq (c_region ?_)
   refine o_as rfl rfl ?_
   refine o_nil (q_then (c_ret ?_))
   refine q_then_ret (q_block_ret (q_then_ret (q_then_ret (q_block_ret (q_then_ret ?_)))))
   have hr0 : (3 : Int) = (Lru.keys l) := by
    first | exact Lru.keys_bad (by omega) hI2 (by assumption) | exact Lru.keys_twice (by omega) hI2 (by assumption) ((hI3 _).1 (by assumption)) | exact Lru.keys_end (by omega) hI2
   refine q_end0 (v := Vi 3) (rt1 rfl (r_tmp rfl)) (i := 1) rfl ?_
   exact (by have hcc := congrArg (fun (y0 : Int) => (.int .i64 y0 : Value)) hr0; exact hcc)
  ·simp only [Bool.not_eq_false'] at hc4
   refine c_skip (q_then (c_seq (c_seq (c_region ?_))))
   refine o_mv rfl rfl ?_
   refine o_mv rfl rfl ?_
   refine o_p (p_lookup2 (i := 0) (K := kInt) (ve := (fun _ => .agg #[])) (m := m) (k := l[k]) (dflt := ()) rfl rfl rfl Tryz.underlying117 Tryz.underlying3 zv118) ?_
   refine o_mv rfl rfl ?_
   refine o_ex rfl rfl rfl ?_
   refine o_ex rfl rfl rfl ?_
   refine o_alloc ze118 rfl (fun B5 => ?_)
   refine o_storeN (i := 0) (vs := []) (cs' := []) rfl rfl rfl sz118 rfl rfl rfl rfl ?_
   refine o_as rfl rfl ?_
   refine o_nil (q_then (c_seq (c_region ?_)))
   refine o_mv rfl rfl ?_
   refine o_nil (q_then ?_)
   refine c_cond rfl (fun hc6 => ?_) (fun hc6 => ?_)
   ·skip
    refine c_seq (c_region ?_)
    refine o_as rfl rfl ?_
    refine o_nil (q_then (c_ret ?_))
    refine q_then_ret (q_block_ret (q_then_ret (q_then_ret (q_block_ret (q_then_ret ?_)))))
    have hr0 : (6 : Int) = (Lru.keys l) := by
     first | exact Lru.keys_bad (by omega) hI2 (by assumption) | exact Lru.keys_twice (by omega) hI2 (by assumption) ((hI3 _).1 (by assumption)) | exact Lru.keys_end (by omega) hI2
    refine q_end0 (v := Vi 6) (rt1 rfl (r_tmp rfl)) (i := 2) rfl ?_
    exact (by have hcc := congrArg (fun (y0 : Int) => (.int .i64 y0 : Value)) hr0; exact hcc)
   ·skip
    refine c_skip (q_then (c_region ?_))
    refine o_mv rfl rfl ?_
    refine o_mv rfl rfl ?_
    refine o_p (p_build (cells := []) fp118 ze118 rfl rfl) ?_
    refine o_mapUpdate (i := 1) (K := kInt) (ve := (fun _ => .agg #[])) (m := m) (k := l[k]) (v := ()) rfl rfl rfl rfl Tryz.underlying117 Tryz.underlying3 ?_
    refine o_nil ?_
    refine q_block_normal (q_then ?_)
    refine c_region ?_
    refine o_p (p_addb rfl rfl (by omega)) ?_
    refine o_mv rfl rfl ?_
    refine o_nil ?_
    refine q_round hK2 (k + 1, (AL.set m (l[k]) ())) ?_ ?_ ?_ ?_
    ·clear hK2
     exact ⟨by omega, Lru.keys_next (by omega) hI2 (by assumption) (fun hm => by have := (hI3 _).2 hm; simp_all), hI3.next (by omega) _⟩
    ·(try dsimp only); omega
    ·exact sr (sr (sr (sr (Sub.nil _))))
    ·exact pk [1, 2]
 ·simp only [decide_eq_false_iff_not, Int.not_lt] at hc3
  refine c_exit ?_
  refine q_then_exit (q_then_exit (q_block_exit (q_then ?_)))
  refine c_seq (c_region ?_)
  refine o_as rfl rfl ?_
  refine o_nil (q_then (c_ret ?_))
  have hr0 : (0 : Int) = (Lru.keys l) := by
   first | exact Lru.keys_bad (by omega) hI2 (by assumption) | exact Lru.keys_twice (by omega) hI2 (by assumption) ((hI3 _).1 (by assumption)) | exact Lru.keys_end (by omega) hI2
  refine q_end0 (v := Vi 0) (rt1 rfl (r_tmp rfl)) (i := 1) rfl ?_
  exact (by have hcc := congrArg (fun (y0 : Int) => (.int .i64 y0 : Value)) hr0; exact hcc)

set_option maxHeartbeats 8000000 in
set_option maxRecDepth 100000 in
theorem lcheck_ok (c : DCache) (ac_0 : Option Addr) (cc_0 : Nat) : Fn0 Tryz.prog 16 [.agg #[Vi c.room, .slice ac_0 c.keys.length cc_0]] (fun w => Rd tInt w ac_0 cc_0 c.keys) (Vi (Lru.check c)) := by
 refine fn0 (nt := 18) (F0 := [(0, .agg #[Vi c.room, .slice ac_0 c.keys.length cc_0])]) Tryz.func16 rfl Tryz.ntmps16 rfl rfl (fun w0 hpre => ?_)
 have hc_0 := hpre
 have hlhc_0 := hc_0.2.1
 refine c_seq (c_region ?_)
 refine o_box (v := .agg #[Vi c.room, .slice ac_0 c.keys.length cc_0]) rfl rfl (fun B1 => ?_)
 refine o_as rfl rfl ?_
 refine o_nil (q_then (c_seq (c_block (c_seq (c_region ?_)))))
 refine o_p (p_fieldAddr (j' := 0) rfl fo33_0 rfl) ?_
 refine o_p (p_load (i := 0) (v := Vi c.room) rfl rfl sh3 rfl) ?_
 refine o_call0 (v := .bool (Lru.okRoom c.room)) rfl (room_ok c.room) hf36 (fun _ _ => trivial) rfl ?_
 refine o_p (p_not (b := (Lru.okRoom c.room)) rfl) ?_
 refine o_as rfl rfl ?_
 refine o_nil (q_then ?_)
 refine c_cond rfl (fun hc2 => ?_) (fun hc2 => ?_)
 ·simp only [Bool.not_eq_true'] at hc2
  refine c_seq (c_region ?_)
  refine o_as rfl rfl ?_
  refine o_nil (q_then (c_ret ?_))
  refine q_block_ret (q_then_ret ?_)
  have hr0 : (3 : Int) = (Lru.check c) := by
   first | (rw [Lru.check, if_pos (by assumption)]; done) | (rw [Lru.check, if_neg (by simp_all), if_pos (by assumption)]; done) | (rw [Lru.check, if_neg (by simp_all), if_neg (by omega)]; done)
  refine q_end0 (v := Vi 3) (rt1 rfl (r_tmp rfl)) (i := 1) rfl ?_
  exact (by have hcc := congrArg (fun (y0 : Int) => (.int .i64 y0 : Value)) hr0; exact hcc)
 ·simp only [Bool.not_eq_false'] at hc2
  refine c_seq (c_region ?_)
  refine o_p (p_fieldAddr (j' := 1) rfl fo33_1 rfl) ?_
  refine o_p (p_load (i := 0) (v := .slice ac_0 c.keys.length cc_0) rfl rfl sh26 rfl) ?_
  refine o_p (p_len_slice rfl rfl Tryz.underlying26) ?_
  refine o_p (p_fieldAddr (j' := 0) rfl fo33_0 rfl) ?_
  refine o_p (p_load (i := 0) (v := Vi c.room) rfl rfl sh3 rfl) ?_
  refine o_p (p_gt rfl rfl) ?_
  refine o_as rfl rfl ?_
  refine o_nil (q_then ?_)
  refine c_cond rfl (fun hc3 => ?_) (fun hc3 => ?_)
  ·simp only [decide_eq_true_eq] at hc3
   refine c_seq (c_region ?_)
   refine o_as rfl rfl ?_
   refine o_nil (q_then (c_ret ?_))
   refine q_block_ret (q_then_ret ?_)
   have hr0 : (2 : Int) = (Lru.check c) := by
    first | (rw [Lru.check, if_pos (by assumption)]; done) | (rw [Lru.check, if_neg (by simp_all), if_pos (by assumption)]; done) | (rw [Lru.check, if_neg (by simp_all), if_neg (by omega)]; done)
   refine q_end0 (v := Vi 2) (rt1 rfl (r_tmp rfl)) (i := 1) rfl ?_
   exact (by have hcc := congrArg (fun (y0 : Int) => (.int .i64 y0 : Value)) hr0; exact hcc)
  ·simp only [decide_eq_false_iff_not, Int.not_lt] at hc3
   refine c_skip ?_
   refine q_block_normal (q_then ?_)
   refine c_seq (c_region ?_)
   refine o_p (p_fieldAddr (j' := 1) rfl fo33_1 rfl) ?_
   refine o_p (p_load (i := 0) (v := .slice ac_0 c.keys.length cc_0) rfl rfl sh26 rfl) ?_
   refine o_call0 (v := Vi (Lru.keys c.keys)) rfl (keys_ok c.keys ac_0 cc_0) hf37 (fun w hw => (rd_base (i := 1) rfl hc_0) w hw) rfl ?_
   refine o_as rfl rfl ?_
   refine o_nil (q_then (c_ret ?_))
   have hr0 : ((Lru.keys c.keys) : Int) = (Lru.check c) := by
    first | (rw [Lru.check, if_pos (by assumption)]; done) | (rw [Lru.check, if_neg (by simp_all), if_pos (by assumption)]; done) | (rw [Lru.check, if_neg (by simp_all), if_neg (by omega)]; done)
   refine q_end0 (v := Vi (Lru.keys c.keys)) (rt1 rfl (r_tmp rfl)) (i := 1) rfl ?_
   exact (by have hcc := congrArg (fun (y0 : Int) => (.int .i64 y0 : Value)) hr0; exact hcc)

set_option maxHeartbeats 8000000 in
set_option maxRecDepth 100000 in
theorem lowned_ok (c : DCache) (ac_0 : Option Addr) (cc_0 : Nat) (hy1 : c.keys.length ≤ 1000000) : FnX Tryz.prog 18 [.agg #[Vi c.room, .slice ac_0 c.keys.length cc_0]] [] (fun w => SlR tInt (outer w []).S w ac_0 cc_0 c.keys) (Nat × Option Addr × Nat × (Nat → Prop)) (fun p => .pointer (some ⟨p.1, 0, none⟩)) (fun p => [box p.1 [Vi c.room, .slice p.2.1 c.keys.length p.2.2.1] 53, own tInt p.2.2.2 p.2.1 p.2.2.1 c.keys]) := by
 refine fnX (nt := 11) (F0 := [(0, .agg #[Vi c.room, .slice ac_0 c.keys.length cc_0])]) Tryz.func18 rfl Tryz.ntmps18 rfl rfl (fun w0 hpre => ?_)
 have hc_0 := hpre
 have hlhc_0 := hc_0.2.1
 refine c_seq (c_region ?_)
 refine o_box (v := .agg #[Vi c.room, .slice ac_0 c.keys.length cc_0]) rfl rfl (fun B1 => ?_)
 refine o_as rfl rfl ?_
 refine o_nil (q_then (c_seq ?_))
 refine c_held hmix [box B1 [Vi c.room, .slice ac_0 c.keys.length cc_0] 33, outer w0 []] rfl rfl ?_
 refine h_t0 (i := 0) (ls := #[T1,F0,F0,F0,F0,F0,F0,F0,F0]) rfl (p_fieldAddr (j' := 0) rfl fo33_0 rfl) ?_
 refine h_t0 (i := 1) (ls := #[T1,T1,F0,F0,F0,F0,F0,F0,F0]) rfl (p_load (i := 0) (v := Vi c.room) rfl rfl sh3 rfl) ?_
 refine h_t0 (i := 2) (ls := #[T1,T1,T1,F0,F0,F0,F0,F0,F0]) rfl (p_fieldAddr (j' := 1) rfl fo33_1 rfl) ?_
 refine h_t0 (i := 3) (ls := #[T1,T1,T1,T1,F0,F0,F0,F0,F0]) rfl (p_load (i := 0) (v := .slice ac_0 c.keys.length cc_0) rfl rfl sh26 rfl) ?_
 refine h_one (i := 4) (ls := #[T1,T1,T1,T1,T1,F0,F0,F0,F0]) (by kernel_rfl) rfl rfl ?_
 refine o_callM rfl (clone_Int_ok c.keys ac_0 cc_0 (by first | assumption | omega | (simp only [List.length_append, List.length_take, List.length_drop, List.length_cons, List.length_nil]; omega))) hf40 (fun w hw => (rd_outer (i := 1) rfl hc_0) w hw) rfl (fun _ _ _ _ ha hA => SlO.agree ha hA) ?_
 rintro ⟨a2_4, c2_4⟩ S2_4
 refine o_know (fun w hw => own_len (i := 0) (T := tInt) hw rfl) (fun hlr2_4 => ?_)
 refine o_nil ?_
 refine h_next (dp (lz (lj (lj (ln))))) ?_
 refine h_tk (i := 5) (ls := #[T1,T1,T1,T1,T1,T1,F0,F0,F0]) rfl (p_build (cells := [Vi c.room, .slice a2_4 c.keys.length c2_4]) fp33 ze33 rfl rfl) (dp (lz (lj (lj (ln))))) ?_
 refine h_tk (i := 6) (ls := #[T1,T1,T1,T1,T1,T1,T1,F0,F0]) rfl (p_build (cells := [Vi c.room, .slice a2_4 c.keys.length c2_4]) fp53 ze53 rfl rfl) (dp (lz (lj (lj (ln))))) ?_
 refine h_one (i := 7) (ls := #[T1,T1,T1,T1,T1,T1,T1,T1,F0]) (by kernel_rfl) rfl rfl ?_
 refine o_box (v := .agg #[Vi c.room, .slice a2_4 c.keys.length c2_4]) rfl rfl (fun B2_7 => ?_)
 refine o_nil ?_
 refine h_next (dp (lz (lz (lj (lj (ln)))))) ?_
 refine h_tk (i := 8) (ls := #[T1,T1,T1,T1,T1,T1,T1,T1,T1]) rfl (p_assign rfl) (dp (lz (lz (lj (lj (ln)))))) ?_
 refine h_done (by kernel_rfl) ?_
 refine q_then (c_ret ?_)
 refine q_endX (p := (B2_7, a2_4, c2_4, S2_4)) (rt1 rfl (r_tmp rfl)) ?_ (fun w hw => ?_)
 ·exact rfl
 ·have h2 := hw.pick (H' := [outer w0 [], box B2_7 [Vi c.room, .slice a2_4 c.keys.length c2_4] 53, own tInt S2_4 a2_4 c2_4 c.keys]) [3, 0, 1] (by decide) rfl
  exact Eq.mp (congrArg (fun z => HeapIs w0 ((outer w0 []) :: z) w) (rfl)) h2

set_option maxHeartbeats 8000000 in
set_option maxRecDepth 100000 in
theorem ltouch_ok (c : DCache) (Bc : Nat) (ac_0 : Option Addr) (cc_0 : Nat) (Sc_0 : Nat → Prop) (key : Int) (hy1 : Lru.Ok c) : FnX Tryz.prog 19 [.pointer (some ⟨Bc, 0, none⟩), Vi key] [box Bc [Vi c.room, .slice ac_0 c.keys.length cc_0] 53, own tInt Sc_0 ac_0 cc_0 c.keys] (fun _ => True) (Option Addr × Nat × (Nat → Prop)) (fun p => .tuple #[.bool ((Lru.touch c key).2.1), Vi ((Lru.touch c key).2.2)]) (fun p => [box Bc [Vi (((Lru.touch c key).1).room), .slice p.1 (((Lru.touch c key).1).keys).length p.2.1] 53, own tInt p.2.2 p.1 p.2.1 (((Lru.touch c key).1).keys)]) := by
 refine fnX (nt := 88) (F0 := [(0, .pointer (some ⟨Bc, 0, none⟩)), (1, Vi key)]) Tryz.func19 rfl Tryz.ntmps19 rfl rfl (fun w0 hpre => ?_)
 refine c_know (fun w hw => own_len (i := 2) (T := tInt) hw rfl) (fun hlown_c_0 => ?_)
 obtain ⟨hcown_c_0, hlown_c_0⟩ := hlown_c_0
 have hroom := hy1.room
 have hlen := hy1.len
 refine c_seq (c_region ?_)
 refine o_as rfl rfl ?_
 refine o_as rfl rfl ?_
 refine o_nil (q_then (c_seq (c_region ?_)))
 refine o_mv rfl rfl ?_
 refine o_p (p_nilCheck rfl) ?_
 refine o_p (p_fieldAddr (j' := 0) rfl fo53_0 rfl) ?_
 refine o_p (p_fieldAddr (j' := 1) rfl fo33_1 rfl) ?_
 refine o_p (p_load (i := 1) (v := .slice ac_0 c.keys.length cc_0) rfl rfl sh26 rfl) ?_
 refine o_mv rfl rfl ?_
 refine o_call0 (v := Vi (idxF (fun x : Int => (x == key)) c.keys)) rfl (index_int_ok c.keys ac_0 cc_0 key) hf41 (fun w hw => (rd_own (i := 2) rfl) w hw) rfl ?_
 refine o_as rfl rfl ?_
 refine o_nil (q_then (c_seq (c_region ?_)))
 refine o_as rfl rfl ?_
 refine o_nil (q_then (c_seq (c_block (c_seq (c_region ?_)))))
 refine o_mv rfl rfl ?_
 refine o_p (p_ge rfl rfl) ?_
 refine o_as rfl rfl ?_
 refine o_nil (q_then ?_)
 refine c_cond rfl (fun hc1 => ?_) (fun hc1 => ?_)
 ·simp only [decide_eq_true_eq] at hc1
  have hix := idxF_lt (fun x : Int => (x == key)) c.keys
  refine c_region ?_
  refine o_mv rfl rfl ?_
  refine o_mv rfl rfl ?_
  refine o_p (p_nilCheck rfl) ?_
  refine o_p (p_fieldAddr (j' := 0) rfl fo53_0 rfl) ?_
  refine o_p (p_fieldAddr (j' := 1) rfl fo33_1 rfl) ?_
  refine o_p (p_load (i := 1) (v := .slice ac_0 c.keys.length cc_0) rfl rfl sh26 rfl) ?_
  refine o_mv rfl rfl ?_
  refine o_mv rfl rfl ?_
  refine o_p (p_addb rfl rfl (by omega)) ?_
  refine o_pick (H' := [own tInt Sc_0 ac_0 cc_0 c.keys, outer w0 [box Bc [Vi c.room, .slice ac_0 c.keys.length cc_0] 53, own tInt Sc_0 ac_0 cc_0 c.keys], box Bc [Vi c.room, .slice ac_0 c.keys.length cc_0] 53]) [2, 0, 1] (by decide) rfl ?_
  refine o_callX (pre := [own tInt Sc_0 ac_0 cc_0 c.keys]) (R := [outer w0 [box Bc [Vi c.room, .slice ac_0 c.keys.length cc_0] 53, own tInt Sc_0 ac_0 cc_0 c.keys], box Bc [Vi c.room, .slice ac_0 c.keys.length cc_0] 53]) rfl (delete_Int_ok c.keys ac_0 cc_0 Sc_0 (idxF (fun x : Int => (x == key)) c.keys) ((idxF (fun x : Int => (x == key)) c.keys) + 1) (by omega)) hf42 rfl (fun _ _ => trivial) rfl ?_
  rintro ⟨a2, c3, S4⟩
  refine o_asH (H' := [own tInt S4 a2 c3 (c.keys.take (idxF (fun x : Int => (x == key)) c.keys).toNat ++ c.keys.drop ((idxF (fun x : Int => (x == key)) c.keys) + 1).toNat), outer w0 [box Bc [Vi c.room, .slice ac_0 c.keys.length cc_0] 53, own tInt Sc_0 ac_0 cc_0 c.keys], box Bc [Vi c.room, .slice ac_0 c.keys.length cc_0] 53]) rfl ?_
  refine o_p (p_nilCheck rfl) ?_
  refine o_p (p_fieldAddr (j' := 0) rfl fo53_0 rfl) ?_
  refine o_p (p_fieldAddr (j' := 1) rfl fo33_1 rfl) ?_
  refine o_store (i := 2) (v := .slice a2 (c.keys.take (idxF (fun x : Int => (x == key)) c.keys).toNat ++ c.keys.drop ((idxF (fun x : Int => (x == key)) c.keys) + 1).toNat).length c3) (cs' := [Vi c.room, .slice a2 (c.keys.take (idxF (fun x : Int => (x == key)) c.keys).toNat ++ c.keys.drop ((idxF (fun x : Int => (x == key)) c.keys) + 1).toNat).length c3]) rfl rfl rfl sz26 rfl rfl rfl ?_
  refine o_nil ?_
  refine q_block_normal (q_then ?_)
  refine c_seq (c_region ?_)
  refine o_mv rfl rfl ?_
  refine o_mv rfl rfl ?_
  refine o_p (p_nilCheck rfl) ?_
  refine o_p (p_fieldAddr (j' := 0) rfl fo53_0 rfl) ?_
  refine o_p (p_fieldAddr (j' := 1) rfl fo33_1 rfl) ?_
  refine o_p (p_load (i := 2) (v := .slice a2 (c.keys.take (idxF (fun x : Int => (x == key)) c.keys).toNat ++ c.keys.drop ((idxF (fun x : Int => (x == key)) c.keys) + 1).toNat).length c3) rfl rfl sh26 rfl) ?_
  refine o_mv rfl rfl ?_
  refine o_buildSlice (m := 1) (T := tInt) (L := [key]) (vs := [Vi key]) rfl rfl rfl rfl Tryz.underlying26 sz3 (by decide) ze3 rfl (by decide) rfl (fun S6 a7 => ?_)
  refine o_pick (H' := [own tInt S4 a2 c3 (c.keys.take (idxF (fun x : Int => (x == key)) c.keys).toNat ++ c.keys.drop ((idxF (fun x : Int => (x == key)) c.keys) + 1).toNat), own tInt S6 a7 ([key].length) ([key]), outer w0 [box Bc [Vi c.room, .slice ac_0 c.keys.length cc_0] 53, own tInt Sc_0 ac_0 cc_0 c.keys], box Bc [Vi c.room, .slice a2 (c.keys.take (idxF (fun x : Int => (x == key)) c.keys).toNat ++ c.keys.drop ((idxF (fun x : Int => (x == key)) c.keys) + 1).toNat).length c3] 53]) [1, 0, 2, 3] (by decide) rfl ?_
  refine o_callX (pre := [own tInt S4 a2 c3 (c.keys.take (idxF (fun x : Int => (x == key)) c.keys).toNat ++ c.keys.drop ((idxF (fun x : Int => (x == key)) c.keys) + 1).toNat), own tInt S6 a7 ([key].length) ([key])]) (R := [outer w0 [box Bc [Vi c.room, .slice ac_0 c.keys.length cc_0] 53, own tInt Sc_0 ac_0 cc_0 c.keys], box Bc [Vi c.room, .slice a2 (c.keys.take (idxF (fun x : Int => (x == key)) c.keys).toNat ++ c.keys.drop ((idxF (fun x : Int => (x == key)) c.keys) + 1).toNat).length c3] 53]) rfl (insert_Int_ok (c.keys.take (idxF (fun x : Int => (x == key)) c.keys).toNat ++ c.keys.drop ((idxF (fun x : Int => (x == key)) c.keys) + 1).toNat) a2 c3 S4 (0 : Int) ([key]) a7 ([key].length) S6 (by (try simp only [List.length_cons, List.length_nil, List.length_append, List.length_take, List.length_drop, and_true]); omega)) hf43 rfl (fun _ _ => trivial) rfl ?_
  rintro ⟨a9, c10, S11⟩
  refine o_asH (H' := [own tInt S11 a9 c10 ((c.keys.take (idxF (fun x : Int => (x == key)) c.keys).toNat ++ c.keys.drop ((idxF (fun x : Int => (x == key)) c.keys) + 1).toNat).take (0 : Int).toNat ++ ([key]) ++ (c.keys.take (idxF (fun x : Int => (x == key)) c.keys).toNat ++ c.keys.drop ((idxF (fun x : Int => (x == key)) c.keys) + 1).toNat).drop (0 : Int).toNat), outer w0 [box Bc [Vi c.room, .slice ac_0 c.keys.length cc_0] 53, own tInt Sc_0 ac_0 cc_0 c.keys], box Bc [Vi c.room, .slice a2 (c.keys.take (idxF (fun x : Int => (x == key)) c.keys).toNat ++ c.keys.drop ((idxF (fun x : Int => (x == key)) c.keys) + 1).toNat).length c3] 53]) rfl ?_
  refine o_p (p_nilCheck rfl) ?_
  refine o_p (p_fieldAddr (j' := 0) rfl fo53_0 rfl) ?_
  refine o_p (p_fieldAddr (j' := 1) rfl fo33_1 rfl) ?_
  refine o_store (i := 2) (v := .slice a9 ((c.keys.take (idxF (fun x : Int => (x == key)) c.keys).toNat ++ c.keys.drop ((idxF (fun x : Int => (x == key)) c.keys) + 1).toNat).take (0 : Int).toNat ++ ([key]) ++ (c.keys.take (idxF (fun x : Int => (x == key)) c.keys).toNat ++ c.keys.drop ((idxF (fun x : Int => (x == key)) c.keys) + 1).toNat).drop (0 : Int).toNat).length c10) (cs' := [Vi c.room, .slice a9 ((c.keys.take (idxF (fun x : Int => (x == key)) c.keys).toNat ++ c.keys.drop ((idxF (fun x : Int => (x == key)) c.keys) + 1).toNat).take (0 : Int).toNat ++ ([key]) ++ (c.keys.take (idxF (fun x : Int => (x == key)) c.keys).toNat ++ c.keys.drop ((idxF (fun x : Int => (x == key)) c.keys) + 1).toNat).drop (0 : Int).toNat).length c10]) rfl rfl rfl sz26 rfl rfl rfl ?_
  refine o_nil (q_then (c_seq (c_region ?_)))
  refine o_mv rfl rfl ?_
  refine o_p (p_ge rfl rfl) ?_
  refine o_mv rfl rfl ?_
  refine o_as rfl rfl ?_
  refine o_as rfl rfl ?_
  refine o_nil (q_then (c_ret ?_))
  first
   | have ht := Lru.touch_hit (c := c) (key := key) hy1 (by assumption)
   | have ht := Lru.touch_full (c := c) (key := key) hy1 (by assumption) (by assumption) (by omega)
   | have ht := Lru.touch_add (c := c) (key := key) hy1 (by assumption) (by assumption)
  have hr0 : (c.room : Int) = ((Lru.touch c key).1).room := by
   first | (rw [ht]; done) | (rw [ht]; rfl) | (rw [ht]; exact (Lru.ins0 _ _).trans (by rw [Lru.nat1 (by omega)])) | (rw [ht]; exact decide_eq_true (by omega)) | (rw [ht]; exact decide_eq_false (by omega))
  have hr1 : (((c.keys.take (idxF (fun x : Int => (x == key)) c.keys).toNat ++ c.keys.drop ((idxF (fun x : Int => (x == key)) c.keys) + 1).toNat).take (0 : Int).toNat ++ ([key]) ++ (c.keys.take (idxF (fun x : Int => (x == key)) c.keys).toNat ++ c.keys.drop ((idxF (fun x : Int => (x == key)) c.keys) + 1).toNat).drop (0 : Int).toNat) : List Int) = ((Lru.touch c key).1).keys := by
   first | (rw [ht]; done) | (rw [ht]; rfl) | (rw [ht]; exact (Lru.ins0 _ _).trans (by rw [Lru.nat1 (by omega)])) | (rw [ht]; exact decide_eq_true (by omega)) | (rw [ht]; exact decide_eq_false (by omega))
  have hr2 : (decide (0 ≤ (idxF (fun x : Int => (x == key)) c.keys)) : Bool) = ((Lru.touch c key).2.1) := by
   first | (rw [ht]; done) | (rw [ht]; rfl) | (rw [ht]; exact (Lru.ins0 _ _).trans (by rw [Lru.nat1 (by omega)])) | (rw [ht]; exact decide_eq_true (by omega)) | (rw [ht]; exact decide_eq_false (by omega))
  have hr3 : ((-1) : Int) = ((Lru.touch c key).2.2) := by
   first | (rw [ht]; done) | (rw [ht]; rfl) | (rw [ht]; exact (Lru.ins0 _ _).trans (by rw [Lru.nat1 (by omega)])) | (rw [ht]; exact decide_eq_true (by omega)) | (rw [ht]; exact decide_eq_false (by omega))
  refine q_endX (p := (a9, c10, S11)) (rt2 rfl (r_tmp rfl) (r_tmp rfl)) ?_ (fun w hw => ?_)
  ·exact (by have hcc := congr (congr (congr (congrArg (fun (y0 : Int) (y1 : List Int) (y2 : Bool) (y3 : Int) => (.tuple #[.bool y2, .int .i64 y3] : Value)) hr0) hr1) hr2) hr3; exact hcc)
  ·have h2 := hw.pick (H' := [outer w0 [box Bc [Vi c.room, .slice ac_0 c.keys.length cc_0] 53, own tInt Sc_0 ac_0 cc_0 c.keys], box Bc [Vi c.room, .slice a9 ((c.keys.take (idxF (fun x : Int => (x == key)) c.keys).toNat ++ c.keys.drop ((idxF (fun x : Int => (x == key)) c.keys) + 1).toNat).take (0 : Int).toNat ++ ([key]) ++ (c.keys.take (idxF (fun x : Int => (x == key)) c.keys).toNat ++ c.keys.drop ((idxF (fun x : Int => (x == key)) c.keys) + 1).toNat).drop (0 : Int).toNat).length c10] 53, own tInt S11 a9 c10 ((c.keys.take (idxF (fun x : Int => (x == key)) c.keys).toNat ++ c.keys.drop ((idxF (fun x : Int => (x == key)) c.keys) + 1).toNat).take (0 : Int).toNat ++ ([key]) ++ (c.keys.take (idxF (fun x : Int => (x == key)) c.keys).toNat ++ c.keys.drop ((idxF (fun x : Int => (x == key)) c.keys) + 1).toNat).drop (0 : Int).toNat)]) [1, 2, 0] (by decide) rfl
   exact Eq.mp (congrArg (fun z => HeapIs w0 ((outer w0 [box Bc [Vi c.room, .slice ac_0 c.keys.length cc_0] 53, own tInt Sc_0 ac_0 cc_0 c.keys]) :: z) w) ((by have hcc := congr (congr (congr (congrArg (fun (y0 : Int) (y1 : List Int) (y2 : Bool) (y3 : Int) => ([box Bc [.int .i64 y0, .slice a9 y1.length c10] 53, own tInt S11 a9 c10 y1] : List Ent)) hr0) hr1) hr2) hr3; exact hcc))) h2
 ·simp only [decide_eq_false_iff_not, Int.not_le] at hc1
  have hix := idxF_lt (fun x : Int => (x == key)) c.keys
  refine c_seq ?_
  refine c_draw hmix (by kernel_rfl) ?_
  refine w_mv rfl rfl ?_
  refine w_p (p_nilCheck rfl) ?_
  refine w_p (p_fieldAddr (j' := 0) rfl fo53_0 rfl) ?_
  refine w_p (p_fieldAddr (j' := 1) rfl fo33_1 rfl) ?_
  refine w_p (p_load (i := 1) (v := .slice ac_0 c.keys.length cc_0) rfl rfl sh26 rfl) ?_
  refine w_p (p_len_slice rfl rfl Tryz.underlying26) ?_
  refine w_mv rfl rfl ?_
  refine w_p (p_nilCheck rfl) ?_
  refine w_p (p_fieldAddr (j' := 0) rfl fo53_0 rfl) ?_
  refine w_p (p_fieldAddr (j' := 0) rfl fo33_0 rfl) ?_
  refine w_p (p_load (i := 1) (v := Vi c.room) rfl rfl sh3 rfl) ?_
  refine w_p (p_eq rfl rfl) ?_
  refine w_p (p_assign rfl) ?_
  refine w_nil (q_then ?_)
  refine c_cond rfl (fun hc13 => ?_) (fun hc13 => ?_)
  ·simp only [beq_iff_eq] at hc13
   refine c_seq ?_
   refine c_draw hmix (by kernel_rfl) ?_
   refine w_mv rfl rfl ?_
   refine w_p (p_nilCheck rfl) ?_
   refine w_p (p_fieldAddr (j' := 0) rfl fo53_0 rfl) ?_
   refine w_p (p_fieldAddr (j' := 1) rfl fo33_1 rfl) ?_
   refine w_p (p_load (i := 1) (v := .slice ac_0 c.keys.length cc_0) rfl rfl sh26 rfl) ?_
   refine w_mv rfl rfl ?_
   refine w_p (p_nilCheck rfl) ?_
   refine w_p (p_fieldAddr (j' := 0) rfl fo53_0 rfl) ?_
   refine w_p (p_fieldAddr (j' := 0) rfl fo33_0 rfl) ?_
   refine w_p (p_load (i := 1) (v := Vi c.room) rfl rfl sh3 rfl) ?_
   refine w_p (p_subb rfl rfl (by omega)) ?_
   refine w_p (p_indexAddr (L := c.keys) (T := tInt) (i := (c.room - 1)) rfl rfl (rd_own (i := 2) rfl) Tryz.underlying26 sz3 (by omega) (by omega)) ?_
   refine w_p (p_loadE1 (i := (c.room - 1).toNat) (T := tInt) (L := c.keys) (v := Vi (c.keys[(c.room - 1).toNat])) rfl (rd_own (i := 2) rfl) (by first | assumption | omega) sh3 rfl) ?_
   refine w_p (p_assign rfl) ?_
   refine w_nil (q_then ?_)
   refine c_cut (G := Unit) (fun _ => [(0, .pointer (some ⟨Bc, 0, none⟩)), (1, Vi key), (6, Vi (idxF (fun x : Int => (x == key)) c.keys)), (7, Vi (c.keys[(c.room - 1).toNat]))]) (fun _ => [outer w0 [box Bc [Vi c.room, .slice ac_0 c.keys.length cc_0] 53, own tInt Sc_0 ac_0 cc_0 c.keys], box Bc [Vi c.room, .slice ac_0 (c.keys.take ((c.room - 1).toNat)).length cc_0] 53, own tInt Sc_0 ac_0 cc_0 (c.keys.take ((c.room - 1).toNat))]) (fun K hK15 => ?_) ?_
   ·refine c_held hmix [outer w0 [box Bc [Vi c.room, .slice ac_0 c.keys.length cc_0] 53, own tInt Sc_0 ac_0 cc_0 c.keys]] rfl rfl ?_
    refine h_tk (i := 0) (ls := #[T1,F0,F0,F0,F0,F0,F0,F0,F0,F0,F0,F0,F0,F0,F0,F0,F0]) rfl (p_move rfl) (dp (lj (lz (lz (ln))))) ?_
    refine h_tk (i := 1) (ls := #[T1,T1,F0,F0,F0,F0,F0,F0,F0,F0,F0,F0,F0,F0,F0,F0,F0]) rfl (p_move rfl) (dp (lj (lz (lz (ln))))) ?_
    refine h_tk (i := 2) (ls := #[T1,T1,T1,F0,F0,F0,F0,F0,F0,F0,F0,F0,F0,F0,F0,F0,F0]) rfl (p_nilCheck rfl) (dp (lj (lz (lz (ln))))) ?_
    refine h_tk (i := 3) (ls := #[T1,T1,T1,T1,F0,F0,F0,F0,F0,F0,F0,F0,F0,F0,F0,F0,F0]) rfl (p_fieldAddr (j' := 0) rfl fo53_0 rfl) (dp (lj (lz (lz (ln))))) ?_
    refine h_tk (i := 4) (ls := #[T1,T1,T1,T1,T1,F0,F0,F0,F0,F0,F0,F0,F0,F0,F0,F0,F0]) rfl (p_fieldAddr (j' := 1) rfl fo33_1 rfl) (dp (lj (lz (lz (ln))))) ?_
    refine h_tk (i := 6) (ls := #[T1,T1,T1,T1,T1,F0,T1,F0,F0,F0,F0,F0,F0,F0,F0,F0,F0]) rfl (p_move rfl) (dp (lj (lz (lz (ln))))) ?_
    refine h_tk (i := 7) (ls := #[T1,T1,T1,T1,T1,F0,T1,T1,F0,F0,F0,F0,F0,F0,F0,F0,F0]) rfl (p_nilCheck rfl) (dp (lj (lz (lz (ln))))) ?_
    refine h_tk (i := 8) (ls := #[T1,T1,T1,T1,T1,F0,T1,T1,T1,F0,F0,F0,F0,F0,F0,F0,F0]) rfl (p_fieldAddr (j' := 0) rfl fo53_0 rfl) (dp (lj (lz (lz (ln))))) ?_
    refine h_tk (i := 9) (ls := #[T1,T1,T1,T1,T1,F0,T1,T1,T1,T1,F0,F0,F0,F0,F0,F0,F0]) rfl (p_fieldAddr (j' := 0) rfl fo33_0 rfl) (dp (lj (lz (lz (ln))))) ?_
    refine h_two (i := 5) (j := 10) (ls := #[T1,T1,T1,T1,T1,T1,T1,T1,T1,T1,F0,F0,F0,F0,F0,F0,F0]) (ls' := #[T1,T1,T1,T1,T1,F0,T1,T1,T1,T1,T1,F0,F0,F0,F0,F0,F0]) (by kernel_rfl) rfl rfl rfl rfl ?_ ?_
    ·refine o_p (p_load (i := 1) (v := .slice ac_0 c.keys.length cc_0) rfl rfl sh26 rfl) ?_
     refine o_nil ?_
     refine h_next (dp (lj (lz (lz (ln))))) ?_
     refine h_one (i := 10) (ls := #[T1,T1,T1,T1,T1,T1,T1,T1,T1,T1,T1,F0,F0,F0,F0,F0,F0]) (by kernel_rfl) rfl rfl ?_
     refine o_p (p_load (i := 1) (v := Vi c.room) rfl rfl sh3 rfl) ?_
     refine o_nil ?_
     refine h_next (dp (lj (lz (lz (ln))))) ?_
     refine h_tk (i := 11) (ls := #[T1,T1,T1,T1,T1,T1,T1,T1,T1,T1,T1,T1,F0,F0,F0,F0,F0]) rfl (p_subb rfl rfl (by omega)) (dp (lj (lz (lz (ln))))) ?_
     refine h_one (i := 12) (ls := #[T1,T1,T1,T1,T1,T1,T1,T1,T1,T1,T1,T1,T1,F0,F0,F0,F0]) (by kernel_rfl) rfl rfl ?_
     refine o_p (p_sliceH (L := c.keys) (T := tInt) (h := (c.room - 1)) rfl rfl Tryz.underlying26 sz3 (by omega) (by omega) (rd_own (i := 2) rfl)) ?_
     refine o_nil ?_
     refine h_next (dp (lj (lz (lz (ln))))) ?_
     refine h_tk (i := 13) (ls := #[T1,T1,T1,T1,T1,T1,T1,T1,T1,T1,T1,T1,T1,T1,F0,F0,F0]) rfl (p_nilCheck rfl) (dp (lj (lz (lz (ln))))) ?_
     refine h_tk (i := 14) (ls := #[T1,T1,T1,T1,T1,T1,T1,T1,T1,T1,T1,T1,T1,T1,T1,F0,F0]) rfl (p_fieldAddr (j' := 0) rfl fo53_0 rfl) (dp (lj (lz (lz (ln))))) ?_
     refine h_tk (i := 15) (ls := #[T1,T1,T1,T1,T1,T1,T1,T1,T1,T1,T1,T1,T1,T1,T1,T1,F0]) rfl (p_fieldAddr (j' := 1) rfl fo33_1 rfl) (dp (lj (lz (lz (ln))))) ?_
     refine h_one (i := 16) (ls := #[T1,T1,T1,T1,T1,T1,T1,T1,T1,T1,T1,T1,T1,T1,T1,T1,T1]) (by kernel_rfl) rfl rfl ?_
     refine o_shrinkC (i := 2) (hi := (c.room - 1).toNat) (T := tInt) rfl (by omega) ?_
     refine o_store (i := 1) (v := .slice ac_0 (c.keys.take ((c.room - 1).toNat)).length cc_0) (cs' := [Vi c.room, .slice ac_0 (c.keys.take ((c.room - 1).toNat)).length cc_0]) rfl rfl rfl sz26 rfl rfl rfl ?_
     refine o_nil ?_
     refine h_next (dp (lj (lz (lz (ln))))) ?_
     refine h_done (by kernel_rfl) ?_
     refine q_kont hK15 () (sr (sr (sr (sr (Sub.nil _))))) (pk [0, 1, 2])
    ·refine o_p (p_load (i := 1) (v := Vi c.room) rfl rfl sh3 rfl) ?_
     refine o_nil ?_
     refine h_next (dp (lj (lz (lz (ln))))) ?_
     refine h_tk (i := 11) (ls := #[T1,T1,T1,T1,T1,F0,T1,T1,T1,T1,T1,T1,F0,F0,F0,F0,F0]) rfl (p_subb rfl rfl (by omega)) (dp (lj (lz (lz (ln))))) ?_
     refine h_one (i := 5) (ls := #[T1,T1,T1,T1,T1,T1,T1,T1,T1,T1,T1,T1,F0,F0,F0,F0,F0]) (by kernel_rfl) rfl rfl ?_
     refine o_p (p_load (i := 1) (v := .slice ac_0 c.keys.length cc_0) rfl rfl sh26 rfl) ?_
     refine o_nil ?_
     refine h_next (dp (lj (lz (lz (ln))))) ?_
     refine h_one (i := 12) (ls := #[T1,T1,T1,T1,T1,T1,T1,T1,T1,T1,T1,T1,T1,F0,F0,F0,F0]) (by kernel_rfl) rfl rfl ?_
     refine o_p (p_sliceH (L := c.keys) (T := tInt) (h := (c.room - 1)) rfl rfl Tryz.underlying26 sz3 (by omega) (by omega) (rd_own (i := 2) rfl)) ?_
     refine o_nil ?_
     refine h_next (dp (lj (lz (lz (ln))))) ?_
     refine h_tk (i := 13) (ls := #[T1,T1,T1,T1,T1,T1,T1,T1,T1,T1,T1,T1,T1,T1,F0,F0,F0]) rfl (p_nilCheck rfl) (dp (lj (lz (lz (ln))))) ?_
     refine h_tk (i := 14) (ls := #[T1,T1,T1,T1,T1,T1,T1,T1,T1,T1,T1,T1,T1,T1,T1,F0,F0]) rfl (p_fieldAddr (j' := 0) rfl fo53_0 rfl) (dp (lj (lz (lz (ln))))) ?_
     refine h_tk (i := 15) (ls := #[T1,T1,T1,T1,T1,T1,T1,T1,T1,T1,T1,T1,T1,T1,T1,T1,F0]) rfl (p_fieldAddr (j' := 1) rfl fo33_1 rfl) (dp (lj (lz (lz (ln))))) ?_
     refine h_one (i := 16) (ls := #[T1,T1,T1,T1,T1,T1,T1,T1,T1,T1,T1,T1,T1,T1,T1,T1,T1]) (by kernel_rfl) rfl rfl ?_
     refine o_shrinkC (i := 2) (hi := (c.room - 1).toNat) (T := tInt) rfl (by omega) ?_
     refine o_store (i := 1) (v := .slice ac_0 (c.keys.take ((c.room - 1).toNat)).length cc_0) (cs' := [Vi c.room, .slice ac_0 (c.keys.take ((c.room - 1).toNat)).length cc_0]) rfl rfl rfl sz26 rfl rfl rfl ?_
     refine o_nil ?_
     refine h_next (dp (lj (lz (lz (ln))))) ?_
     refine h_done (by kernel_rfl) ?_
     refine q_kont hK15 () (sr (sr (sr (sr (Sub.nil _))))) (pk [0, 1, 2])
   rintro _
   show SQ _ 88 w0 _ _ [(0, .pointer (some ⟨Bc, 0, none⟩)), (1, Vi key), (6, Vi (idxF (fun x : Int => (x == key)) c.keys)), (7, Vi (c.keys[(c.room - 1).toNat]))] [outer w0 [box Bc [Vi c.room, .slice ac_0 c.keys.length cc_0] 53, own tInt Sc_0 ac_0 cc_0 c.keys], box Bc [Vi c.room, .slice ac_0 (c.keys.take ((c.room - 1).toNat)).length cc_0] 53, own tInt Sc_0 ac_0 cc_0 (c.keys.take ((c.room - 1).toNat))]
   refine q_cast (F' := [(0, .pointer (some ⟨Bc, 0, none⟩)), (1, Vi key), (6, Vi (idxF (fun x : Int => (x == key)) c.keys)), (7, Vi (c.keys[(c.room - 1).toNat]))]) (H := [outer w0 [box Bc [Vi c.room, .slice ac_0 c.keys.length cc_0] 53, own tInt Sc_0 ac_0 cc_0 c.keys], box Bc [Vi c.room, .slice ac_0 (c.keys.take ((c.room - 1).toNat)).length cc_0] 53, own tInt Sc_0 ac_0 cc_0 (c.keys.take ((c.room - 1).toNat))]) (H' := [outer w0 [box Bc [Vi c.room, .slice ac_0 c.keys.length cc_0] 53, own tInt Sc_0 ac_0 cc_0 c.keys], box Bc [Vi c.room, .slice ac_0 (c.keys.take ((c.room - 1).toNat)).length cc_0] 53, own tInt Sc_0 ac_0 cc_0 (c.keys.take ((c.room - 1).toNat))]) (sr (sr (sr (sr (Sub.nil _))))) (by rfl) ?_
   refine q_block_normal (q_then ?_)
   refine c_seq (c_region ?_)
   refine o_mv rfl rfl ?_
   refine o_mv rfl rfl ?_
   refine o_p (p_nilCheck rfl) ?_
   refine o_p (p_fieldAddr (j' := 0) rfl fo53_0 rfl) ?_
   refine o_p (p_fieldAddr (j' := 1) rfl fo33_1 rfl) ?_
   refine o_p (p_load (i := 1) (v := .slice ac_0 (c.keys.take ((c.room - 1).toNat)).length cc_0) rfl rfl sh26 rfl) ?_
   refine o_mv rfl rfl ?_
   refine o_buildSlice (m := 1) (T := tInt) (L := [key]) (vs := [Vi key]) rfl rfl rfl rfl Tryz.underlying26 sz3 (by decide) ze3 rfl (by decide) rfl (fun S16 a17 => ?_)
   refine o_pick (H' := [own tInt Sc_0 ac_0 cc_0 (c.keys.take ((c.room - 1).toNat)), own tInt S16 a17 ([key].length) ([key]), outer w0 [box Bc [Vi c.room, .slice ac_0 c.keys.length cc_0] 53, own tInt Sc_0 ac_0 cc_0 c.keys], box Bc [Vi c.room, .slice ac_0 (c.keys.take ((c.room - 1).toNat)).length cc_0] 53]) [3, 0, 1, 2] (by decide) rfl ?_
   refine o_callX (pre := [own tInt Sc_0 ac_0 cc_0 (c.keys.take ((c.room - 1).toNat)), own tInt S16 a17 ([key].length) ([key])]) (R := [outer w0 [box Bc [Vi c.room, .slice ac_0 c.keys.length cc_0] 53, own tInt Sc_0 ac_0 cc_0 c.keys], box Bc [Vi c.room, .slice ac_0 (c.keys.take ((c.room - 1).toNat)).length cc_0] 53]) rfl (insert_Int_ok (c.keys.take ((c.room - 1).toNat)) ac_0 cc_0 Sc_0 (0 : Int) ([key]) a17 ([key].length) S16 (by (try simp only [List.length_cons, List.length_nil, List.length_append, List.length_take, List.length_drop, and_true]); omega)) hf43 rfl (fun _ _ => trivial) rfl ?_
   rintro ⟨a19, c20, S21⟩
   refine o_asH (H' := [own tInt S21 a19 c20 ((c.keys.take ((c.room - 1).toNat)).take (0 : Int).toNat ++ ([key]) ++ (c.keys.take ((c.room - 1).toNat)).drop (0 : Int).toNat), outer w0 [box Bc [Vi c.room, .slice ac_0 c.keys.length cc_0] 53, own tInt Sc_0 ac_0 cc_0 c.keys], box Bc [Vi c.room, .slice ac_0 (c.keys.take ((c.room - 1).toNat)).length cc_0] 53]) rfl ?_
   refine o_p (p_nilCheck rfl) ?_
   refine o_p (p_fieldAddr (j' := 0) rfl fo53_0 rfl) ?_
   refine o_p (p_fieldAddr (j' := 1) rfl fo33_1 rfl) ?_
   refine o_store (i := 2) (v := .slice a19 ((c.keys.take ((c.room - 1).toNat)).take (0 : Int).toNat ++ ([key]) ++ (c.keys.take ((c.room - 1).toNat)).drop (0 : Int).toNat).length c20) (cs' := [Vi c.room, .slice a19 ((c.keys.take ((c.room - 1).toNat)).take (0 : Int).toNat ++ ([key]) ++ (c.keys.take ((c.room - 1).toNat)).drop (0 : Int).toNat).length c20]) rfl rfl rfl sz26 rfl rfl rfl ?_
   refine o_nil (q_then (c_seq (c_region ?_)))
   refine o_mv rfl rfl ?_
   refine o_p (p_ge rfl rfl) ?_
   refine o_mv rfl rfl ?_
   refine o_as rfl rfl ?_
   refine o_as rfl rfl ?_
   refine o_nil (q_then (c_ret ?_))
   first
    | have ht := Lru.touch_hit (c := c) (key := key) hy1 (by assumption)
    | have ht := Lru.touch_full (c := c) (key := key) hy1 (by assumption) (by assumption) (by omega)
    | have ht := Lru.touch_add (c := c) (key := key) hy1 (by assumption) (by assumption)
   have hr0 : (c.room : Int) = ((Lru.touch c key).1).room := by
    first | (rw [ht]; done) | (rw [ht]; rfl) | (rw [ht]; exact (Lru.ins0 _ _).trans (by rw [Lru.nat1 (by omega)])) | (rw [ht]; exact decide_eq_true (by omega)) | (rw [ht]; exact decide_eq_false (by omega))
   have hr1 : (((c.keys.take ((c.room - 1).toNat)).take (0 : Int).toNat ++ ([key]) ++ (c.keys.take ((c.room - 1).toNat)).drop (0 : Int).toNat) : List Int) = ((Lru.touch c key).1).keys := by
    first | (rw [ht]; done) | (rw [ht]; rfl) | (rw [ht]; exact (Lru.ins0 _ _).trans (by rw [Lru.nat1 (by omega)])) | (rw [ht]; exact decide_eq_true (by omega)) | (rw [ht]; exact decide_eq_false (by omega))
   have hr2 : (decide (0 ≤ (idxF (fun x : Int => (x == key)) c.keys)) : Bool) = ((Lru.touch c key).2.1) := by
    first | (rw [ht]; done) | (rw [ht]; rfl) | (rw [ht]; exact (Lru.ins0 _ _).trans (by rw [Lru.nat1 (by omega)])) | (rw [ht]; exact decide_eq_true (by omega)) | (rw [ht]; exact decide_eq_false (by omega))
   have hr3 : (c.keys[(c.room - 1).toNat] : Int) = ((Lru.touch c key).2.2) := by
    first | (rw [ht]; done) | (rw [ht]; rfl) | (rw [ht]; exact (Lru.ins0 _ _).trans (by rw [Lru.nat1 (by omega)])) | (rw [ht]; exact decide_eq_true (by omega)) | (rw [ht]; exact decide_eq_false (by omega))
   refine q_endX (p := (a19, c20, S21)) (rt2 rfl (r_tmp rfl) (r_tmp rfl)) ?_ (fun w hw => ?_)
   ·exact (by have hcc := congr (congr (congr (congrArg (fun (y0 : Int) (y1 : List Int) (y2 : Bool) (y3 : Int) => (.tuple #[.bool y2, .int .i64 y3] : Value)) hr0) hr1) hr2) hr3; exact hcc)
   ·have h2 := hw.pick (H' := [outer w0 [box Bc [Vi c.room, .slice ac_0 c.keys.length cc_0] 53, own tInt Sc_0 ac_0 cc_0 c.keys], box Bc [Vi c.room, .slice a19 ((c.keys.take ((c.room - 1).toNat)).take (0 : Int).toNat ++ ([key]) ++ (c.keys.take ((c.room - 1).toNat)).drop (0 : Int).toNat).length c20] 53, own tInt S21 a19 c20 ((c.keys.take ((c.room - 1).toNat)).take (0 : Int).toNat ++ ([key]) ++ (c.keys.take ((c.room - 1).toNat)).drop (0 : Int).toNat)]) [1, 2, 0] (by decide) rfl
    exact Eq.mp (congrArg (fun z => HeapIs w0 ((outer w0 [box Bc [Vi c.room, .slice ac_0 c.keys.length cc_0] 53, own tInt Sc_0 ac_0 cc_0 c.keys]) :: z) w) ((by have hcc := congr (congr (congr (congrArg (fun (y0 : Int) (y1 : List Int) (y2 : Bool) (y3 : Int) => ([box Bc [.int .i64 y0, .slice a19 y1.length c20] 53, own tInt S21 a19 c20 y1] : List Ent)) hr0) hr1) hr2) hr3; exact hcc))) h2
  ·simp only [beq_eq_false_iff_ne, ne_eq] at hc13
   refine c_skip ?_
   refine q_block_normal (q_then ?_)
   refine c_seq (c_region ?_)
   refine o_mv rfl rfl ?_
   refine o_mv rfl rfl ?_
   refine o_p (p_nilCheck rfl) ?_
   refine o_p (p_fieldAddr (j' := 0) rfl fo53_0 rfl) ?_
   refine o_p (p_fieldAddr (j' := 1) rfl fo33_1 rfl) ?_
   refine o_p (p_load (i := 1) (v := .slice ac_0 c.keys.length cc_0) rfl rfl sh26 rfl) ?_
   refine o_mv rfl rfl ?_
   refine o_buildSlice (m := 1) (T := tInt) (L := [key]) (vs := [Vi key]) rfl rfl rfl rfl Tryz.underlying26 sz3 (by decide) ze3 rfl (by decide) rfl (fun S23 a24 => ?_)
   refine o_pick (H' := [own tInt Sc_0 ac_0 cc_0 c.keys, own tInt S23 a24 ([key].length) ([key]), outer w0 [box Bc [Vi c.room, .slice ac_0 c.keys.length cc_0] 53, own tInt Sc_0 ac_0 cc_0 c.keys], box Bc [Vi c.room, .slice ac_0 c.keys.length cc_0] 53]) [3, 0, 1, 2] (by decide) rfl ?_
   refine o_callX (pre := [own tInt Sc_0 ac_0 cc_0 c.keys, own tInt S23 a24 ([key].length) ([key])]) (R := [outer w0 [box Bc [Vi c.room, .slice ac_0 c.keys.length cc_0] 53, own tInt Sc_0 ac_0 cc_0 c.keys], box Bc [Vi c.room, .slice ac_0 c.keys.length cc_0] 53]) rfl (insert_Int_ok c.keys ac_0 cc_0 Sc_0 (0 : Int) ([key]) a24 ([key].length) S23 (by (try simp only [List.length_cons, List.length_nil, List.length_append, List.length_take, List.length_drop, and_true]); omega)) hf43 rfl (fun _ _ => trivial) rfl ?_
   rintro ⟨a26, c27, S28⟩
   refine o_asH (H' := [own tInt S28 a26 c27 (c.keys.take (0 : Int).toNat ++ ([key]) ++ c.keys.drop (0 : Int).toNat), outer w0 [box Bc [Vi c.room, .slice ac_0 c.keys.length cc_0] 53, own tInt Sc_0 ac_0 cc_0 c.keys], box Bc [Vi c.room, .slice ac_0 c.keys.length cc_0] 53]) rfl ?_
   refine o_p (p_nilCheck rfl) ?_
   refine o_p (p_fieldAddr (j' := 0) rfl fo53_0 rfl) ?_
   refine o_p (p_fieldAddr (j' := 1) rfl fo33_1 rfl) ?_
   refine o_store (i := 2) (v := .slice a26 (c.keys.take (0 : Int).toNat ++ ([key]) ++ c.keys.drop (0 : Int).toNat).length c27) (cs' := [Vi c.room, .slice a26 (c.keys.take (0 : Int).toNat ++ ([key]) ++ c.keys.drop (0 : Int).toNat).length c27]) rfl rfl rfl sz26 rfl rfl rfl ?_
   refine o_nil (q_then (c_seq (c_region ?_)))
   refine o_mv rfl rfl ?_
   refine o_p (p_ge rfl rfl) ?_
   refine o_mv rfl rfl ?_
   refine o_as rfl rfl ?_
   refine o_as rfl rfl ?_
   refine o_nil (q_then (c_ret ?_))
   first
    | have ht := Lru.touch_hit (c := c) (key := key) hy1 (by assumption)
    | have ht := Lru.touch_full (c := c) (key := key) hy1 (by assumption) (by assumption) (by omega)
    | have ht := Lru.touch_add (c := c) (key := key) hy1 (by assumption) (by assumption)
   have hr0 : (c.room : Int) = ((Lru.touch c key).1).room := by
    first | (rw [ht]; done) | (rw [ht]; rfl) | (rw [ht]; exact (Lru.ins0 _ _).trans (by rw [Lru.nat1 (by omega)])) | (rw [ht]; exact decide_eq_true (by omega)) | (rw [ht]; exact decide_eq_false (by omega))
   have hr1 : ((c.keys.take (0 : Int).toNat ++ ([key]) ++ c.keys.drop (0 : Int).toNat) : List Int) = ((Lru.touch c key).1).keys := by
    first | (rw [ht]; done) | (rw [ht]; rfl) | (rw [ht]; exact (Lru.ins0 _ _).trans (by rw [Lru.nat1 (by omega)])) | (rw [ht]; exact decide_eq_true (by omega)) | (rw [ht]; exact decide_eq_false (by omega))
   have hr2 : (decide (0 ≤ (idxF (fun x : Int => (x == key)) c.keys)) : Bool) = ((Lru.touch c key).2.1) := by
    first | (rw [ht]; done) | (rw [ht]; rfl) | (rw [ht]; exact (Lru.ins0 _ _).trans (by rw [Lru.nat1 (by omega)])) | (rw [ht]; exact decide_eq_true (by omega)) | (rw [ht]; exact decide_eq_false (by omega))
   have hr3 : ((-1) : Int) = ((Lru.touch c key).2.2) := by
    first | (rw [ht]; done) | (rw [ht]; rfl) | (rw [ht]; exact (Lru.ins0 _ _).trans (by rw [Lru.nat1 (by omega)])) | (rw [ht]; exact decide_eq_true (by omega)) | (rw [ht]; exact decide_eq_false (by omega))
   refine q_endX (p := (a26, c27, S28)) (rt2 rfl (r_tmp rfl) (r_tmp rfl)) ?_ (fun w hw => ?_)
   ·exact (by have hcc := congr (congr (congr (congrArg (fun (y0 : Int) (y1 : List Int) (y2 : Bool) (y3 : Int) => (.tuple #[.bool y2, .int .i64 y3] : Value)) hr0) hr1) hr2) hr3; exact hcc)
   ·have h2 := hw.pick (H' := [outer w0 [box Bc [Vi c.room, .slice ac_0 c.keys.length cc_0] 53, own tInt Sc_0 ac_0 cc_0 c.keys], box Bc [Vi c.room, .slice a26 (c.keys.take (0 : Int).toNat ++ ([key]) ++ c.keys.drop (0 : Int).toNat).length c27] 53, own tInt S28 a26 c27 (c.keys.take (0 : Int).toNat ++ ([key]) ++ c.keys.drop (0 : Int).toNat)]) [1, 2, 0] (by decide) rfl
    exact Eq.mp (congrArg (fun z => HeapIs w0 ((outer w0 [box Bc [Vi c.room, .slice ac_0 c.keys.length cc_0] 53, own tInt Sc_0 ac_0 cc_0 c.keys]) :: z) w) ((by have hcc := congr (congr (congr (congrArg (fun (y0 : Int) (y1 : List Int) (y2 : Bool) (y3 : Int) => ([box Bc [.int .i64 y0, .slice a26 y1.length c27] 53, own tInt S28 a26 c27 y1] : List Ent)) hr0) hr1) hr2) hr3; exact hcc))) h2

set_option maxHeartbeats 8000000 in
set_option maxRecDepth 100000 in
theorem lrun_ok (c : DCache) (ac_0 : Option Addr) (cc_0 : Nat) (l : List Int) (al : Option Addr) (cl : Nat) : FnM Tryz.prog 9 [.agg #[Vi c.room, .slice ac_0 c.keys.length cc_0], .slice al l.length cl] (fun w => Rd tInt w ac_0 cc_0 c.keys ∧ Rd tInt w al cl l) (Option Addr × Nat) (fun p => .tuple #[.agg #[Vi (((Lru.run c l).1).room), .slice p.1 (((Lru.run c l).1).keys).length p.2], Vi ((Lru.run c l).2), Vi (Lru.runErr c l)]) (fun p S w => SlO tInt S w p.1 p.2 (((Lru.run c l).1).keys)) := by
 refine fnM (nt := 47) (F0 := [(0, .agg #[Vi c.room, .slice ac_0 c.keys.length cc_0]), (1, .slice al l.length cl)]) Tryz.func9 rfl Tryz.ntmps9 rfl rfl (fun w0 hpre => ?_)
 obtain ⟨hc_0, hl⟩ := hpre
 have hlhc_0 := hc_0.2.1
 have hlhl := hl.2.1
 refine c_seq (c_region ?_)
 refine o_box (v := .agg #[Vi c.room, .slice ac_0 c.keys.length cc_0]) rfl rfl (fun B1 => ?_)
 refine o_alloc ze33 rfl (fun B2 => ?_)
 refine o_as rfl rfl ?_
 refine o_as rfl rfl ?_
 refine o_nil (q_then (c_seq (c_region ?_)))
 refine o_p (p_load_agg (i := 1) (vs := [Vi c.room, .slice ac_0 c.keys.length cc_0]) rfl rfl sh33 rfl rfl) ?_
 refine o_call0 (v := Vi (Lru.check c)) rfl (lcheck_ok c ac_0 cc_0) hf16 (fun w hw => (rd_base (i := 2) rfl hc_0) w hw) rfl ?_
 refine o_as rfl rfl ?_
 refine o_nil (q_then (c_seq (c_seq (c_region ?_))))
 refine o_mv rfl rfl ?_
 refine o_p (p_eq rfl rfl) ?_
 refine o_nil (q_then ?_)
 refine c_cond rfl (fun hc3 => ?_) (fun hc3 => ?_)
 ·simp only [beq_iff_eq] at hc3
  have hok := Lru.ok_of hc3
  have hroom := hok.room
  have hlen := hok.len
  refine c_region ?_
  refine o_mv rfl rfl ?_
  refine o_call0 (v := Vi (Lru.trace l)) rfl (checkTrace_ok l al cl) hf17 (fun w hw => (rd_base (i := 2) rfl hl) w hw) rfl ?_
  refine o_as rfl rfl ?_
  refine o_nil (q_then (c_seq (c_seq (c_region ?_))))
  refine o_mv rfl rfl ?_
  refine o_p (p_ne rfl rfl) ?_
  refine o_nil (q_then ?_)
  refine c_cond rfl (fun hc4 => ?_) (fun hc4 => ?_)
  ·simp only [bne_iff_ne, ne_eq] at hc4
   refine c_seq (c_region ?_)
   refine o_p (p_build (cells := [Vi 0, .slice none 0 0]) fp33 ze33 rfl rfl) ?_
   refine o_mv rfl rfl ?_
   refine o_storeN (i := 0) (vs := [Vi 0, .slice none 0 0]) (cs' := [Vi 0, .slice none 0 0]) rfl rfl rfl sz33 rfl rfl rfl rfl ?_
   refine o_as rfl rfl ?_
   refine o_as rfl rfl ?_
   refine o_nil (q_then (c_ret ?_))
   refine q_then_ret ?_
   obtain ⟨ha, hae⟩ : _ ∧ _ := by first | exact Lru.run1 (c := c) (l := l) (by assumption) | exact Lru.run2 (c := c) (l := l) (by assumption) (by assumption) | (obtain ⟨h1, h2⟩ := Lru.run3 (c := c) (l := l) (by assumption) (by assumption); rw [hI.done (by omega)] at h1; exact ⟨h1, h2⟩)
   have hr0 : (0 : Int) = ((Lru.run c l).1).room := by
    simp only [ha, hae, Lru.zero]
   have hr1 : ([] : List Int) = ((Lru.run c l).1).keys := by
    simp only [ha, hae, Lru.zero]
   have hr2 : (0 : Int) = ((Lru.run c l).2) := by
    simp only [ha, hae, Lru.zero]
   have hr3 : ((Lru.trace l) : Int) = (Lru.runErr c l) := by
    simp only [ha, hae, Lru.zero]
   refine q_endM (p := (none, 0)) (fun _ => False) (rt3 rfl (r_cell (i := 0) rfl rfl sh33 rfl) (r_tmp rfl) (r_tmp rfl)) (i := 2) rfl ?_ ?_ ?_
   ·exact (by have hcc := congr (congr (congr (congrArg (fun (y0 : Int) (y1 : List Int) (y2 : Int) (y3 : Int) => (.tuple #[.agg #[.int .i64 y0, .slice none y1.length 0], .int .i64 y2, .int .i64 y3] : Value)) hr0) hr1) hr2) hr3; exact hcc)
   ·intro w hw b hb; exact hb.elim
   ·intro w hw; exact Eq.mp (congrArg (fun y => SlO tInt _ w none 0 y) hr1) (SlO.nil tInt w)
  ·simp only [bne_eq_false_iff_eq] at hc4
   refine c_skip (q_then (c_seq (c_region ?_)))
   refine o_p (p_load_agg (i := 1) (vs := [Vi c.room, .slice ac_0 c.keys.length cc_0]) rfl rfl sh33 rfl rfl) ?_
   refine o_callX (pre := []) (R := [box B2 [Vi 0, .slice none 0 0] 33, box B1 [Vi c.room, .slice ac_0 c.keys.length cc_0] 33, base w0]) rfl (lowned_ok c ac_0 cc_0 (by omega)) hf18 rfl (fun w hw => (rdX (i := 2) (js := []) rfl (by decide) rfl (fun _ hA => slR_base hc_0 hA)) w hw) rfl ?_
   rintro ⟨B5, a6, c7, S8⟩
   refine o_asH (H' := [box B5 [Vi c.room, .slice a6 c.keys.length c7] 53, own tInt S8 a6 c7 c.keys, box B2 [Vi 0, .slice none 0 0] 33, box B1 [Vi c.room, .slice ac_0 c.keys.length cc_0] 33, base w0]) rfl ?_
   refine o_as rfl rfl ?_
   refine o_as rfl rfl ?_
   refine o_nil (q_then (c_seq (c_seq (c_region ?_))))
   refine o_mv rfl rfl ?_
   refine o_p (p_len_slice rfl rfl Tryz.underlying26) ?_
   refine o_mv rfl rfl ?_
   refine o_nil (q_then (c_block ?_))
   refine c_loop (St := Int × Nat × DCache × Option Addr × Nat × (Nat → Prop))
    (fun ⟨hits, k, cc, acc_0, ccc_0, Scc_0⟩ => [(4, .pointer (some ⟨B2, 0, none⟩)), (8, .pointer (some ⟨B5, 0, none⟩)), (9, Vi hits), (26, .slice al l.length cl), (27, Vi (l.length : Int)), (28, Vi (k : Int))])
    (fun ⟨hits, k, cc, acc_0, ccc_0, Scc_0⟩ => [box B5 [Vi cc.room, .slice acc_0 cc.keys.length ccc_0] 53, own tInt Scc_0 acc_0 ccc_0 cc.keys, box B2 [Vi 0, .slice none 0 0] 33, box B1 [Vi c.room, .slice ac_0 c.keys.length cc_0] 33, base w0])
    (fun ⟨hits, k, cc, acc_0, ccc_0, Scc_0⟩ => Lru.RInv c cc l hits k)
    (fun ⟨hits, k, cc, acc_0, ccc_0, Scc_0⟩ => l.length - k)
    (0, 0, c, a6, c7, S8) ?_ (sr (sr (sr (sr (sr (sr (Sub.nil _))))))) (fun _ hw => hw) ?_
   ·exact Lru.RInv.start' (by assumption) (by assumption)
   rintro ⟨hits, k, cc, acc_0, ccc_0, Scc_0⟩ hI K hK10
   have hn0 := hI.n0
   have hn1 := hI.n1
   show SC _ _ Tryz.prog 47 w0 _ _ [(4, .pointer (some ⟨B2, 0, none⟩)), (8, .pointer (some ⟨B5, 0, none⟩)), (9, Vi hits), (26, .slice al l.length cl), (27, Vi (l.length : Int)), (28, Vi (k : Int))] [box B5 [Vi cc.room, .slice acc_0 cc.keys.length ccc_0] 53, own tInt Scc_0 acc_0 ccc_0 cc.keys, box B2 [Vi 0, .slice none 0 0] 33, box B1 [Vi c.room, .slice ac_0 c.keys.length cc_0] 33, base w0]
   refine c_seq (c_region ?_)
   refine o_p (p_lt rfl rfl) ?_
   refine o_nil (q_then (c_seq ?_))
   refine c_cond rfl (fun hc11 => ?_) (fun hc11 => ?_)
   ·simp only [decide_eq_true_eq] at hc11
    refine c_skip (q_then (c_seq (c_block (c_seq (c_region ?_)))))
    refine o_p (p_indexAddr (L := l) (T := tInt) (i := (k : Int)) rfl rfl (rd_base (i := 4) rfl hl) Tryz.underlying26 sz3 (by omega) (by omega)) ?_
    refine o_p (p_loadE1 (i := k) (T := tInt) (L := l) (v := Vi (l[k])) rfl (rd_base (i := 4) rfl hl) (by first | assumption | omega) sh3 rfl) ?_
    refine o_as rfl rfl ?_
    refine o_nil (q_then (c_seq (c_region ?_)))
    refine o_mv rfl rfl ?_
    refine o_mv rfl rfl ?_
    refine o_callX (pre := [box B5 [Vi cc.room, .slice acc_0 cc.keys.length ccc_0] 53, own tInt Scc_0 acc_0 ccc_0 cc.keys]) (R := [box B2 [Vi 0, .slice none 0 0] 33, box B1 [Vi c.room, .slice ac_0 c.keys.length cc_0] 33, base w0]) rfl (ltouch_ok cc B5 acc_0 ccc_0 Scc_0 (l[k]) (by first | assumption | exact hI.ok | omega)) hf19 rfl (fun _ _ => trivial) rfl ?_
    rintro ⟨a12, c13, S14⟩
    refine o_asH (H' := [box B5 [Vi (((Lru.touch cc (l[k])).1).room), .slice a12 (((Lru.touch cc (l[k])).1).keys).length c13] 53, own tInt S14 a12 c13 (((Lru.touch cc (l[k])).1).keys), box B2 [Vi 0, .slice none 0 0] 33, box B1 [Vi c.room, .slice ac_0 c.keys.length cc_0] 33, base w0]) rfl ?_
    refine o_mv rfl rfl ?_
    refine o_ex rfl rfl rfl ?_
    refine o_ex rfl rfl rfl ?_
    refine o_as rfl rfl ?_
    refine o_as rfl rfl ?_
    refine o_nil (q_then (c_seq (c_region ?_)))
    refine o_mv rfl rfl ?_
    refine o_nil (q_then ?_)
    refine c_cond rfl (fun hc16 => ?_) (fun hc16 => ?_)
    ·skip
     refine c_region ?_
     refine o_mv rfl rfl ?_
     refine o_p (p_addb rfl rfl (by omega)) ?_
     refine o_as rfl rfl ?_
     refine o_nil ?_
     refine q_block_normal (q_then ?_)
     refine c_region ?_
     refine o_p (p_addb rfl rfl (by omega)) ?_
     refine o_mv rfl rfl ?_
     refine o_nil ?_
     refine q_round hK10 ((hits + 1), k + 1, ((Lru.touch cc (l[k])).1), a12, c13, S14) ?_ ?_ ?_ ?_
     ·clear hK10
      first | exact hI.hit (by omega) (by assumption) | exact hI.miss (by omega) (by assumption)
     ·(try dsimp only); omega
     ·exact sr (sr (sr (sr (sr (sr (Sub.nil _))))))
     ·exact pk [0, 1, 2, 3, 4]
    ·skip
     refine c_skip ?_
     refine q_block_normal (q_then ?_)
     refine c_region ?_
     refine o_p (p_addb rfl rfl (by omega)) ?_
     refine o_mv rfl rfl ?_
     refine o_nil ?_
     refine q_round hK10 (hits, k + 1, ((Lru.touch cc (l[k])).1), a12, c13, S14) ?_ ?_ ?_ ?_
     ·clear hK10
      first | exact hI.hit (by omega) (by assumption) | exact hI.miss (by omega) (by assumption)
     ·(try dsimp only); omega
     ·exact sr (sr (sr (sr (sr (sr (Sub.nil _))))))
     ·exact pk [0, 1, 2, 3, 4]
   ·simp only [decide_eq_false_iff_not, Int.not_lt] at hc11
    refine c_exit ?_
    refine q_then_exit (q_then_exit (q_block_exit (q_then ?_)))
    refine c_seq (c_region ?_)
    refine o_mv rfl rfl ?_
    refine o_p (p_nilCheck rfl) ?_
    refine o_p (p_fieldAddr (j' := 0) rfl fo53_0 rfl) ?_
    refine o_p (p_load_agg (i := 0) (vs := [Vi cc.room, .slice acc_0 cc.keys.length ccc_0]) rfl rfl sh33 rfl rfl) ?_
    refine o_mv rfl rfl ?_
    refine o_storeN (i := 2) (vs := [Vi cc.room, .slice acc_0 cc.keys.length ccc_0]) (cs' := [Vi cc.room, .slice acc_0 cc.keys.length ccc_0]) rfl rfl rfl sz33 rfl rfl rfl rfl ?_
    refine o_as rfl rfl ?_
    refine o_as rfl rfl ?_
    refine o_nil (q_then (c_ret ?_))
    obtain ⟨ha, hae⟩ : _ ∧ _ := by first | exact Lru.run1 (c := c) (l := l) (by assumption) | exact Lru.run2 (c := c) (l := l) (by assumption) (by assumption) | (obtain ⟨h1, h2⟩ := Lru.run3 (c := c) (l := l) (by assumption) (by assumption); rw [hI.done (by omega)] at h1; exact ⟨h1, h2⟩)
    have hr0 : (cc.room : Int) = ((Lru.run c l).1).room := by
     simp only [ha, hae, Lru.zero]
    have hr1 : (cc.keys : List Int) = ((Lru.run c l).1).keys := by
     simp only [ha, hae, Lru.zero]
    have hr2 : (hits : Int) = ((Lru.run c l).2) := by
     simp only [ha, hae, Lru.zero]
    have hr3 : (0 : Int) = (Lru.runErr c l) := by
     simp only [ha, hae, Lru.zero]
    refine q_endM (p := (acc_0, ccc_0)) Scc_0 (rt3 rfl (r_cell (i := 2) rfl rfl sh33 rfl) (r_tmp rfl) (r_tmp rfl)) (i := 4) rfl ?_ ?_ ?_
    ·exact (by have hcc := congr (congr (congr (congrArg (fun (y0 : Int) (y1 : List Int) (y2 : Int) (y3 : Int) => (.tuple #[.agg #[.int .i64 y0, .slice acc_0 y1.length ccc_0], .int .i64 y2, .int .i64 y3] : Value)) hr0) hr1) hr2) hr3; exact hcc)
    ·exact fun w hw => hw.above (i := 4) (j := 1) (by decide) rfl rfl
    ·intro w hw; exact Eq.mp (congrArg (fun y => SlO tInt _ w acc_0 ccc_0 y) hr1) ((hw.at (i := 1) rfl).here)
 ·simp only [beq_eq_false_iff_ne, ne_eq] at hc3
  refine c_skip (q_then (c_seq (c_seq (c_region ?_))))
  refine o_mv rfl rfl ?_
  refine o_p (p_ne rfl rfl) ?_
  refine o_nil (q_then ?_)
  refine c_cond rfl (fun hc17 => ?_) (fun hc17 => ?_)
  ·simp only [bne_iff_ne, ne_eq] at hc17
   refine c_seq (c_region ?_)
   refine o_p (p_build (cells := [Vi 0, .slice none 0 0]) fp33 ze33 rfl rfl) ?_
   refine o_mv rfl rfl ?_
   refine o_storeN (i := 0) (vs := [Vi 0, .slice none 0 0]) (cs' := [Vi 0, .slice none 0 0]) rfl rfl rfl sz33 rfl rfl rfl rfl ?_
   refine o_as rfl rfl ?_
   refine o_as rfl rfl ?_
   refine o_nil (q_then (c_ret ?_))
   refine q_then_ret ?_
   obtain ⟨ha, hae⟩ : _ ∧ _ := by first | exact Lru.run1 (c := c) (l := l) (by assumption) | exact Lru.run2 (c := c) (l := l) (by assumption) (by assumption) | (obtain ⟨h1, h2⟩ := Lru.run3 (c := c) (l := l) (by assumption) (by assumption); rw [hI.done (by omega)] at h1; exact ⟨h1, h2⟩)
   have hr0 : (0 : Int) = ((Lru.run c l).1).room := by
    simp only [ha, hae, Lru.zero]
   have hr1 : ([] : List Int) = ((Lru.run c l).1).keys := by
    simp only [ha, hae, Lru.zero]
   have hr2 : (0 : Int) = ((Lru.run c l).2) := by
    simp only [ha, hae, Lru.zero]
   have hr3 : ((Lru.check c) : Int) = (Lru.runErr c l) := by
    simp only [ha, hae, Lru.zero]
   refine q_endM (p := (none, 0)) (fun _ => False) (rt3 rfl (r_cell (i := 0) rfl rfl sh33 rfl) (r_tmp rfl) (r_tmp rfl)) (i := 2) rfl ?_ ?_ ?_
   ·exact (by have hcc := congr (congr (congr (congrArg (fun (y0 : Int) (y1 : List Int) (y2 : Int) (y3 : Int) => (.tuple #[.agg #[.int .i64 y0, .slice none y1.length 0], .int .i64 y2, .int .i64 y3] : Value)) hr0) hr1) hr2) hr3; exact hcc)
   ·intro w hw b hb; exact hb.elim
   ·intro w hw; exact Eq.mp (congrArg (fun y => SlO tInt _ w none 0 y) hr1) (SlO.nil tInt w)
  ·simp only [bne_eq_false_iff_eq] at hc17
   exfalso; first | contradiction | omega | simp_all
end Go.Proofs.YtgkihbbeimhmbaaGreatDoor
