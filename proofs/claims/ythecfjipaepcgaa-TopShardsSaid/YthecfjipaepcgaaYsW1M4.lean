/- The walks, printed by a program from the translation and a specification. -/
import Derived.Test.YthecfjipaepcgaaYsF
import Derived.Test.YthecfjipaepcgaaYsLawM4
import Derived.Test.YthecfjipaepcgaaProg
import Derived.Test.YthecfjipaepcgaaSx31M4
namespace Go.Proofs.Ythecfjipaepcgaa
open Go.Sx Go.RowKit
set_option maxHeartbeats 8000000 in
set_option maxRecDepth 100000 in
theorem indexFunc_Int_ok (l : List Int) (al : Option Addr) (cl : Nat) (gf : FuncId) (kf : List Value) (f : Int → Bool) (Pf : World → Prop) (stf : ∀ w w', Below w.heap.size w w' → Pf w → Pf w') (okf : ∀ (x : Int), Fn0 Try.prog gf (Vi x :: kf) Pf (.bool (f x))) (hpf : HasFn Try.prog gf) : Fn0 Try.prog 115 [.slice al l.length cl, .func (.func gf) #[] kf.toArray] (fun w => Rd tInt w al cl l ∧ Pf w) (Vi (idxF f l)) := by
 refine fn0 (nt := 19) (F0 := [(0, .slice al l.length cl), (1, .func (.func gf) #[] kf.toArray)]) Try.func115 rfl Try.ntmps115 rfl rfl (fun w0 hpre => ?_)
 obtain ⟨hl, hf⟩ := hpre
 have hlhl := hl.2.1
 refine c_seq (c_region ?_)
 refine o_as rfl rfl ?_
 refine o_nil (q_then (c_seq (c_seq (c_region ?_))))
 refine o_mv rfl rfl ?_
 refine o_p (p_len_slice rfl rfl Try.underlying45) ?_
 refine o_mv rfl rfl ?_
 refine o_nil (q_then (c_block ?_))
 refine c_loop (St := Nat)
  (fun k => [(0, .slice al l.length cl), (1, .func (.func gf) #[] kf.toArray), (7, Vi (l.length : Int)), (8, Vi (k : Int))])
  (fun k => [base w0])
  (fun k => k ≤ l.length ∧ ∀ j (h : j < l.length), j < k → f l[j] = false)
  (fun k => l.length - k)
  0 ?_ (sr (sr (sr (sr (Sub.nil _))))) (fun _ hw => hw) ?_
 ·exact ⟨Nat.zero_le _, fun j _ h => absurd h (by omega)⟩
 rintro k hI K hK1
 obtain ⟨hI1, hI2⟩ := hI
 show SC _ _ Try.prog 19 w0 _ _ [(0, .slice al l.length cl), (1, .func (.func gf) #[] kf.toArray), (7, Vi (l.length : Int)), (8, Vi (k : Int))] [base w0]
 refine c_seq (c_region ?_)
 refine o_p (p_lt rfl rfl) ?_
 refine o_nil (q_then (c_seq ?_))
 refine c_cond rfl (fun hc2 => ?_) (fun hc2 => ?_)
 ·simp only [decide_eq_true_eq] at hc2
  refine c_skip (q_then (c_seq (c_block (c_seq (c_region ?_)))))
  refine o_mv rfl rfl ?_
  refine o_as rfl rfl ?_
  refine o_nil (q_then (c_seq (c_region ?_)))
  refine o_mv rfl rfl ?_
  refine o_mv rfl rfl ?_
  refine o_mv rfl rfl ?_
  refine o_p (p_indexAddr (L := l) (T := tInt) (i := (k : Int)) rfl rfl (rd_base (i := 0) rfl hl) Try.underlying45 sz3 (by omega) (by omega)) ?_
  refine o_p (p_loadE1 (i := k) (T := tInt) (L := l) (v := Vi (l[k])) rfl (rd_base (i := 0) rfl hl) (by first | assumption | omega) sh3 rfl) ?_
  refine o_call0V (vs := [Vi (l[k])]) (caps := kf) (v := .bool (f (l[k]))) rfl rfl (okf (l[k])) hpf (pre_base (i := 0) rfl stf hf) rfl ?_
  refine o_nil (q_then ?_)
  refine c_cond rfl (fun hc3 => ?_) (fun hc3 => ?_)
  ·skip
   refine c_seq (c_region ?_)
   refine o_mv rfl rfl ?_
   refine o_as rfl rfl ?_
   refine o_nil (q_then (c_ret ?_))
   refine q_block_ret (q_then_ret (q_then_ret (q_block_ret (q_then_ret ?_))))
   have hr0 : ((k : Int) : Int) = (idxF f l) := by
    first | exact idxF_found (by omega) (by assumption) hI2 | exact idxF_none (fun j h => hI2 j h (by omega))
   refine q_end0 (v := Vi (k : Int)) (rt1 rfl (r_tmp rfl)) (i := 0) rfl ?_
   exact (by have hcc := congrArg (fun (y0 : Int) => (.int .i64 y0 : Value)) hr0; exact hcc)
  ·skip
   refine c_skip ?_
   refine q_block_normal (q_then ?_)
   refine c_region ?_
   refine o_p (p_addb rfl rfl (by omega)) ?_
   refine o_mv rfl rfl ?_
   refine o_nil ?_
   refine q_round hK1 (k + 1) ?_ ?_ ?_ ?_
   ·clear hK1
    refine ⟨by omega, fun j h h2 => ?_⟩
    by_cases e : j = k
    ·subst e; assumption
    ·exact hI2 j h (by omega)
   ·(try dsimp only); omega
   ·exact sr (sr (sr (sr (Sub.nil _))))
   ·exact pk [0]
 ·simp only [decide_eq_false_iff_not, Int.not_lt] at hc2
  refine c_exit ?_
  refine q_then_exit (q_then_exit (q_block_exit (q_then ?_)))
  refine c_seq (c_region ?_)
  refine o_as rfl rfl ?_
  refine o_nil (q_then (c_ret ?_))
  have hr0 : ((-1) : Int) = (idxF f l) := by
   first | exact idxF_found (by omega) (by assumption) hI2 | exact idxF_none (fun j h => hI2 j h (by omega))
  refine q_end0 (v := Vi (-1)) (rt1 rfl (r_tmp rfl)) (i := 0) rfl ?_
  exact (by have hcc := congrArg (fun (y0 : Int) => (.int .i64 y0 : Value)) hr0; exact hcc)

set_option maxHeartbeats 8000000 in
set_option maxRecDepth 100000 in
theorem containsFunc_Int_ok (l : List Int) (al : Option Addr) (cl : Nat) (gf : FuncId) (kf : List Value) (f : Int → Bool) (Pf : World → Prop) (stf : ∀ w w', Below w.heap.size w w' → Pf w → Pf w') (okf : ∀ (x : Int), Fn0 Try.prog gf (Vi x :: kf) Pf (.bool (f x))) (hpf : HasFn Try.prog gf) : Fn0 Try.prog 98 [.slice al l.length cl, .func (.func gf) #[] kf.toArray] (fun w => Rd tInt w al cl l ∧ Pf w) (.bool (l.any f)) := by
 refine fn0 (nt := 9) (F0 := [(0, .slice al l.length cl), (1, .func (.func gf) #[] kf.toArray)]) Try.func98 rfl Try.ntmps98 rfl rfl (fun w0 hpre => ?_)
 obtain ⟨hl, hf⟩ := hpre
 have hlhl := hl.2.1
 refine c_seq (c_region ?_)
 refine o_as rfl rfl ?_
 refine o_nil (q_then (c_seq (c_region ?_)))
 refine o_mv rfl rfl ?_
 refine o_mv rfl rfl ?_
 refine o_call0 (v := Vi (idxF f l)) rfl (indexFunc_Int_ok l al cl gf kf f Pf stf okf hpf) hf115 (fun w hw => ⟨(rd_base (i := 0) rfl hl) w hw, pre_base (i := 0) rfl stf hf w hw⟩) rfl ?_
 refine o_p (p_ge rfl rfl) ?_
 refine o_as rfl rfl ?_
 refine o_nil (q_then (c_ret ?_))
 have hr0 : (decide (0 ≤ (idxF f l)) : Bool) = (l.any f) := by
  exact (any_idxF f l).symm
 refine q_end0 (v := .bool (decide (0 ≤ (idxF f l)))) (rt1 rfl (r_tmp rfl)) (i := 0) rfl ?_
 exact (by have hcc := congrArg (fun (y0 : Bool) => (.bool y0 : Value)) hr0; exact hcc)

set_option maxHeartbeats 8000000 in
set_option maxRecDepth 100000 in
theorem key_ok (n : Int) : Fn0 Try.prog 85 [Vi n] (fun _ => True) (.bool (Lru.okKey n)) := by
 refine fn0 (nt := 9) (F0 := [(0, Vi n)]) Try.func85 rfl Try.ntmps85 rfl rfl (fun w0 hpre => ?_)
 refine c_seq (c_region ?_)
 refine o_as rfl rfl ?_
 refine o_nil (q_then (c_seq (c_region ?_)))
 refine o_mv rfl rfl ?_
 refine o_p (p_ge rfl rfl) ?_
 refine o_mv rfl rfl ?_
 refine o_and (p := 8) 3 (decide (n ≤ 1048576)) ?_ ?_ ?_
 ·intro hb1 hk
  simp only [decide_eq_true_eq] at hb1
  refine o_unguard 5 rfl rfl ?_
  refine o_mv rfl rfl ?_
  refine o_unguard 5 rfl rfl ?_
  refine o_p (p_le rfl rfl) ?_
  refine o_pt rfl rfl rfl ?_
  exact o_sub (sr (Sub.skip rfl (Sub.skip rfl (Sub.skip rfl (Sub.skip rfl (Sub.refl _)))))) hk
 ·intro hb1 hk
  refine o_guard_no rfl 5 rfl rfl rfl rfl rfl ?_
  refine o_guard_no rfl 5 rfl rfl rfl rfl rfl ?_
  refine o_pf rfl rfl rfl ?_
  exact o_sub (sr (Sub.skip rfl (Sub.skip rfl (Sub.skip rfl (Sub.skip rfl (Sub.refl _)))))) hk
 refine o_as rfl rfl ?_
 refine o_nil (q_then (c_ret ?_))
 have hr0 : ((decide (0 ≤ n) && decide (n ≤ 1048576)) : Bool) = (Lru.okKey n) := by
  rfl
 refine q_end0 (v := .bool (decide (0 ≤ n) && decide (n ≤ 1048576))) (rt1 rfl (r_tmp rfl)) (i := 0) rfl ?_
 exact (by have hcc := congrArg (fun (y0 : Bool) => (.bool y0 : Value)) hr0; exact hcc)

set_option maxHeartbeats 8000000 in
set_option maxRecDepth 100000 in
theorem room_ok (n : Int) : Fn0 Try.prog 105 [Vi n] (fun _ => True) (.bool (Lru.okRoom n)) := by
 refine fn0 (nt := 9) (F0 := [(0, Vi n)]) Try.func105 rfl Try.ntmps105 rfl rfl (fun w0 hpre => ?_)
 refine c_seq (c_region ?_)
 refine o_as rfl rfl ?_
 refine o_nil (q_then (c_seq (c_region ?_)))
 refine o_mv rfl rfl ?_
 refine o_p (p_ge rfl rfl) ?_
 refine o_mv rfl rfl ?_
 refine o_and (p := 8) 3 (decide (n ≤ 40)) ?_ ?_ ?_
 ·intro hb1 hk
  simp only [decide_eq_true_eq] at hb1
  refine o_unguard 5 rfl rfl ?_
  refine o_mv rfl rfl ?_
  refine o_unguard 5 rfl rfl ?_
  refine o_p (p_le rfl rfl) ?_
  refine o_pt rfl rfl rfl ?_
  exact o_sub (sr (Sub.skip rfl (Sub.skip rfl (Sub.skip rfl (Sub.skip rfl (Sub.refl _)))))) hk
 ·intro hb1 hk
  refine o_guard_no rfl 5 rfl rfl rfl rfl rfl ?_
  refine o_guard_no rfl 5 rfl rfl rfl rfl rfl ?_
  refine o_pf rfl rfl rfl ?_
  exact o_sub (sr (Sub.skip rfl (Sub.skip rfl (Sub.skip rfl (Sub.skip rfl (Sub.refl _)))))) hk
 refine o_as rfl rfl ?_
 refine o_nil (q_then (c_ret ?_))
 have hr0 : ((decide (1 ≤ n) && decide (n ≤ 40)) : Bool) = (Lru.okRoom n) := by
  rfl
 refine q_end0 (v := .bool (decide (1 ≤ n) && decide (n ≤ 40))) (rt1 rfl (r_tmp rfl)) (i := 0) rfl ?_
 exact (by have hcc := congrArg (fun (y0 : Bool) => (.bool y0 : Value)) hr0; exact hcc)

set_option maxHeartbeats 8000000 in
set_option maxRecDepth 100000 in
theorem checkTrace1_ok (key : Int) : Fn0 Try.prog 99 [Vi key] (fun _ => True) (.bool (!Lru.okKey key)) := by
 refine fn0 (nt := 6) (F0 := [(0, Vi key)]) Try.func99 rfl Try.ntmps99 rfl rfl (fun w0 hpre => ?_)
 refine c_seq (c_region ?_)
 refine o_as rfl rfl ?_
 refine o_nil (q_then (c_seq (c_region ?_)))
 refine o_mv rfl rfl ?_
 refine o_call0 (v := .bool (Lru.okKey key)) rfl (key_ok key) hf85 (fun _ _ => trivial) rfl ?_
 refine o_p (p_not (b := (Lru.okKey key)) rfl) ?_
 refine o_as rfl rfl ?_
 refine o_nil (q_then (c_ret ?_))
 have hr0 : ((!(Lru.okKey key)) : Bool) = (!Lru.okKey key) := by
  rfl
 refine q_end0 (v := .bool (!(Lru.okKey key))) (rt1 rfl (r_tmp rfl)) (i := 0) rfl ?_
 exact (by have hcc := congrArg (fun (y0 : Bool) => (.bool y0 : Value)) hr0; exact hcc)

set_option maxHeartbeats 8000000 in
set_option maxRecDepth 100000 in
theorem checkTrace_ok (l : List Int) (al : Option Addr) (cl : Nat) : Fn0 Try.prog 73 [.slice al l.length cl] (fun w => Rd tInt w al cl l) (Vi (Lru.trace l)) := by
 refine fn0 (nt := 10) (F0 := [(0, .slice al l.length cl)]) Try.func73 rfl Try.ntmps73 rfl rfl (fun w0 hpre => ?_)
 have hl := hpre
 have hlhl := hl.2.1
 refine c_seq (c_region ?_)
 refine o_as rfl rfl ?_
 refine o_nil (q_then (c_seq (c_block (c_seq (c_region ?_)))))
 refine o_mv rfl rfl ?_
 refine o_p (p_len_slice rfl rfl Try.underlying45) ?_
 refine o_p (p_gt rfl rfl) ?_
 refine o_as rfl rfl ?_
 refine o_nil (q_then ?_)
 refine c_cond rfl (fun hc1 => ?_) (fun hc1 => ?_)
 ·simp only [decide_eq_true_eq] at hc1
  refine c_seq (c_region ?_)
  refine o_as rfl rfl ?_
  refine o_nil (q_then (c_ret ?_))
  refine q_block_ret (q_then_ret ?_)
  have hr0 : (2 : Int) = (Lru.trace l) := by
   first | exact (Lru.trace_many (by assumption)).symm | exact (Lru.trace_bad (by omega) (by assumption)).symm | exact (Lru.trace_fine (by omega) (by assumption)).symm
  refine q_end0 (v := Vi 2) (rt1 rfl (r_tmp rfl)) (i := 0) rfl ?_
  exact (by have hcc := congrArg (fun (y0 : Int) => (.int .i64 y0 : Value)) hr0; exact hcc)
 ·simp only [decide_eq_false_iff_not, Int.not_lt] at hc1
  refine c_seq (c_region ?_)
  refine o_mv rfl rfl ?_
  refine o_call0 (v := .bool (l.any (fun x : Int => (!Lru.okKey x)))) rfl (containsFunc_Int_ok l al cl 99 [] (fun x => (!Lru.okKey x)) (fun _ => True) (fun _ _ _ h => h) (fun x => checkTrace1_ok x) hf99) hf98 (fun w hw => ⟨(rd_base (i := 0) rfl hl) w hw, trivial⟩) rfl ?_
  refine o_as rfl rfl ?_
  refine o_nil (q_then ?_)
  refine c_cond rfl (fun hc2 => ?_) (fun hc2 => ?_)
  ·skip
   refine c_seq (c_region ?_)
   refine o_as rfl rfl ?_
   refine o_nil (q_then (c_ret ?_))
   refine q_block_ret (q_then_ret ?_)
   have hr0 : (3 : Int) = (Lru.trace l) := by
    first | exact (Lru.trace_many (by assumption)).symm | exact (Lru.trace_bad (by omega) (by assumption)).symm | exact (Lru.trace_fine (by omega) (by assumption)).symm
   refine q_end0 (v := Vi 3) (rt1 rfl (r_tmp rfl)) (i := 0) rfl ?_
   exact (by have hcc := congrArg (fun (y0 : Int) => (.int .i64 y0 : Value)) hr0; exact hcc)
  ·skip
   refine c_skip ?_
   refine q_block_normal (q_then ?_)
   refine c_seq (c_region ?_)
   refine o_as rfl rfl ?_
   refine o_nil (q_then (c_ret ?_))
   have hr0 : (0 : Int) = (Lru.trace l) := by
    first | exact (Lru.trace_many (by assumption)).symm | exact (Lru.trace_bad (by omega) (by assumption)).symm | exact (Lru.trace_fine (by omega) (by assumption)).symm
   refine q_end0 (v := Vi 0) (rt1 rfl (r_tmp rfl)) (i := 0) rfl ?_
   exact (by have hcc := congrArg (fun (y0 : Int) => (.int .i64 y0 : Value)) hr0; exact hcc)

set_option maxHeartbeats 8000000 in
set_option maxRecDepth 100000 in
theorem clone_Int_ok (l : List Int) (al : Option Addr) (cl : Nat) (hy1 : l.length ≤ 1000000) : FnM Try.prog 107 [.slice al l.length cl] (fun w => Rd tInt w al cl l) (Option Addr × Nat) (fun p => .slice p.1 l.length p.2) (fun p S w => SlO tInt S w p.1 p.2 l) := by
 refine fnM (nt := 8) (F0 := [(0, .slice al l.length cl)]) Try.func107 rfl Try.ntmps107 rfl rfl (fun w0 hpre => ?_)
 have hl := hpre
 have hlhl := hl.2.1
 refine c_seq (c_region ?_)
 refine o_as rfl rfl ?_
 refine o_nil (q_then (c_seq (c_seq (c_region ?_))))
 refine o_mv rfl rfl ?_
 refine o_p (p_eqNil rfl rfl Try.underlying45) ?_
 refine o_nil (q_then ?_)
 refine c_cond rfl (fun hc1 => ?_) (fun hc1 => ?_)
 ·skip
  refine c_seq (c_region ?_)
  refine o_as rfl rfl ?_
  refine o_nil (q_then (c_ret ?_))
  refine q_then_ret ?_
  have hr0 : ([] : List Int) = l := by
   first | exact (rd_isNone hl (by assumption)).symm | simp
  refine q_endM (p := (none, 0)) (fun _ => False) (rt1 rfl (r_tmp rfl)) (i := 0) rfl ?_ ?_ ?_
  ·exact (by have hcc := congrArg (fun (y0 : List Int) => (.slice none y0.length 0 : Value)) hr0; exact hcc)
  ·intro w hw b hb; exact hb.elim
  ·intro w hw; exact Eq.mp (congrArg (fun y => SlO tInt _ w none 0 y) hr0) (SlO.nil tInt w)
 ·skip
  refine c_skip (q_then (c_seq (c_region ?_)))
  refine o_buildSlice (m := 0) (T := tInt) (L := []) (vs := []) rfl rfl rfl rfl Try.underlying45 sz3 (by decide) ze3 rfl (by decide) rfl (fun S2 a3 => ?_)
  refine o_mv rfl rfl ?_
  refine o_append (i := 0) (L := []) (M := l) (T := tInt) rfl rfl rfl (rd_base (i := 1) rfl hl) Try.underlying45 Try.underlying45 (by intro k h; cases h) el3 (by intro z; simp [tInt, one1]) (by decide) (by simp only [List.length_nil]; omega) rfl (fun a5 c6 S7 => ?_)
  refine o_as rfl rfl ?_
  refine o_nil (q_then (c_ret ?_))
  have hr0 : (([] ++ l) : List Int) = l := by
   first | exact (rd_isNone hl (by assumption)).symm | simp
  refine q_endM (p := (a5, c6)) S7 (rt1 rfl (r_tmp rfl)) (i := 1) rfl ?_ ?_ ?_
  ·exact (by have hcc := congrArg (fun (y0 : List Int) => (.slice a5 y0.length c6 : Value)) hr0; exact hcc)
  ·exact fun w hw => hw.above (i := 1) (j := 0) (by decide) rfl rfl
  ·intro w hw; exact Eq.mp (congrArg (fun y => SlO tInt _ w a5 c6 y) hr0) ((hw.at (i := 0) rfl).here)

set_option maxHeartbeats 8000000 in
set_option maxRecDepth 100000 in
theorem index_int_ok (l : List Int) (al : Option Addr) (cl : Nat) (v : Int) : Fn0 Try.prog 108 [.slice al l.length cl, Vi v] (fun w => Rd tInt w al cl l) (Vi (idxF (fun x : Int => (x == v)) l)) := by
 refine fn0 (nt := 19) (F0 := [(0, .slice al l.length cl), (1, Vi v)]) Try.func108 rfl Try.ntmps108 rfl rfl (fun w0 hpre => ?_)
 have hl := hpre
 have hlhl := hl.2.1
 refine c_seq (c_region ?_)
 refine o_as rfl rfl ?_
 refine o_nil (q_then (c_seq (c_seq (c_region ?_))))
 refine o_mv rfl rfl ?_
 refine o_p (p_len_slice rfl rfl Try.underlying45) ?_
 refine o_mv rfl rfl ?_
 refine o_nil (q_then (c_block ?_))
 refine c_loop (St := Nat)
  (fun k => [(0, .slice al l.length cl), (1, Vi v), (7, Vi (l.length : Int)), (8, Vi (k : Int))])
  (fun k => [base w0])
  (fun k => k ≤ l.length ∧ ∀ j (h : j < l.length), j < k → l[j] ≠ v)
  (fun k => l.length - k)
  0 ?_ (sr (sr (sr (sr (Sub.nil _))))) (fun _ hw => hw) ?_
 ·exact ⟨Nat.zero_le _, fun j _ h => absurd h (by omega)⟩
 rintro k hI K hK1
 show SC _ _ Try.prog 19 w0 _ _ [(0, .slice al l.length cl), (1, Vi v), (7, Vi (l.length : Int)), (8, Vi (k : Int))] [base w0]
 refine c_seq (c_region ?_)
 refine o_p (p_lt rfl rfl) ?_
 refine o_nil (q_then (c_seq ?_))
 refine c_cond rfl (fun hc2 => ?_) (fun hc2 => ?_)
 ·simp only [decide_eq_true_eq] at hc2
  refine c_skip (q_then (c_seq (c_block (c_seq (c_region ?_)))))
  refine o_mv rfl rfl ?_
  refine o_as rfl rfl ?_
  refine o_nil (q_then (c_seq (c_region ?_)))
  refine o_mv rfl rfl ?_
  refine o_mv rfl rfl ?_
  refine o_mv rfl rfl ?_
  refine o_p (p_indexAddr (L := l) (T := tInt) (i := (k : Int)) rfl rfl (rd_base (i := 0) rfl hl) Try.underlying45 sz3 (by omega) (by omega)) ?_
  refine o_p (p_loadE1 (i := k) (T := tInt) (L := l) (v := Vi (l[k])) rfl (rd_base (i := 0) rfl hl) (by first | assumption | omega) sh3 rfl) ?_
  refine o_p (p_eq rfl rfl) ?_
  refine o_nil (q_then ?_)
  refine c_cond rfl (fun hc3 => ?_) (fun hc3 => ?_)
  ·simp only [beq_iff_eq] at hc3
   refine c_seq (c_region ?_)
   refine o_mv rfl rfl ?_
   refine o_as rfl rfl ?_
   refine o_nil (q_then (c_ret ?_))
   refine q_block_ret (q_then_ret (q_then_ret (q_block_ret (q_then_ret ?_))))
   have hr0 : ((k : Int) : Int) = (idxF (fun x : Int => (x == v)) l) := by
    first | exact idxF_found (by omega) (by simp_all) (fun j h h2 => by simpa using hI.2 j h h2) | exact idxF_none (fun j h => by simpa using hI.2 j h (by omega))
   refine q_end0 (v := Vi (k : Int)) (rt1 rfl (r_tmp rfl)) (i := 0) rfl ?_
   exact (by have hcc := congrArg (fun (y0 : Int) => (.int .i64 y0 : Value)) hr0; exact hcc)
  ·simp only [beq_eq_false_iff_ne, ne_eq] at hc3
   refine c_skip ?_
   refine q_block_normal (q_then ?_)
   refine c_region ?_
   refine o_p (p_addb rfl rfl (by omega)) ?_
   refine o_mv rfl rfl ?_
   refine o_nil ?_
   refine q_round hK1 (k + 1) ?_ ?_ ?_ ?_
   ·clear hK1
    refine ⟨by omega, fun j h h2 => ?_⟩
    by_cases e : j = k
    ·subst e; intro h9; simp_all
    ·exact hI.2 j h (by omega)
   ·(try dsimp only); omega
   ·exact sr (sr (sr (sr (Sub.nil _))))
   ·exact pk [0]
 ·simp only [decide_eq_false_iff_not, Int.not_lt] at hc2
  refine c_exit ?_
  refine q_then_exit (q_then_exit (q_block_exit (q_then ?_)))
  refine c_seq (c_region ?_)
  refine o_as rfl rfl ?_
  refine o_nil (q_then (c_ret ?_))
  have hr0 : ((-1) : Int) = (idxF (fun x : Int => (x == v)) l) := by
   first | exact idxF_found (by omega) (by simp_all) (fun j h h2 => by simpa using hI.2 j h h2) | exact idxF_none (fun j h => by simpa using hI.2 j h (by omega))
  refine q_end0 (v := Vi (-1)) (rt1 rfl (r_tmp rfl)) (i := 0) rfl ?_
  exact (by have hcc := congrArg (fun (y0 : Int) => (.int .i64 y0 : Value)) hr0; exact hcc)

set_option maxHeartbeats 8000000 in
set_option maxRecDepth 100000 in
theorem delete_Int_ok (l : List Int) (al : Option Addr) (cl : Nat) (Sl : Nat → Prop) (i : Int) (j : Int) (hy1 : 0 ≤ i ∧ i ≤ j ∧ j ≤ (l.length : Int)) : FnX Try.prog 109 [.slice al l.length cl, Vi i, Vi j] [own tInt Sl al cl l] (fun _ => True) (Option Addr × Nat × (Nat → Prop)) (fun p => .slice p.1 (l.take i.toNat ++ l.drop j.toNat).length p.2.1) (fun p => [own tInt p.2.2 p.1 p.2.1 (l.take i.toNat ++ l.drop j.toNat)]) := by
 refine fnX (nt := 33) (F0 := [(0, .slice al l.length cl), (1, Vi i), (2, Vi j)]) Try.func109 rfl Try.ntmps109 rfl rfl (fun w0 hpre => ?_)
 refine c_know (fun w hw => own_len (i := 1) (T := tInt) hw rfl) (fun hlown_l => ?_)
 obtain ⟨hcown_l, hlown_l⟩ := hlown_l
 refine c_seq (c_region ?_)
 refine o_as rfl rfl ?_
 refine o_nil (q_then (c_seq (c_region ?_)))
 refine o_mv rfl rfl ?_
 refine o_mv rfl rfl ?_
 refine o_mv rfl rfl ?_
 refine o_mv rfl rfl ?_
 refine o_p (p_len_slice rfl rfl Try.underlying45) ?_
 refine o_p (p_sliceLHM (L := l) (T := tInt) (l := i) (h := j) (m := (l.length : Int)) rfl rfl rfl rfl Try.underlying45 sz3 (by omega) (by omega) (by omega) (by omega) (rd_own (i := 1) rfl)) ?_
 refine o_nil (q_then (c_seq (c_seq (c_region ?_))))
 refine o_mv rfl rfl ?_
 refine o_mv rfl rfl ?_
 refine o_p (p_eq rfl rfl) ?_
 refine o_nil (q_then ?_)
 refine c_cond rfl (fun hc1 => ?_) (fun hc1 => ?_)
 ·simp only [beq_iff_eq] at hc1
  refine c_seq (c_region ?_)
  refine o_mv rfl rfl ?_
  refine o_as rfl rfl ?_
  refine o_nil (q_then (c_ret ?_))
  refine q_then_ret ?_
  have hr0 : (l : List Int) = (l.take i.toNat ++ l.drop j.toNat) := by
   first | rfl | (have hij : i = j := (by assumption); subst hij; exact (List.take_append_drop _ _).symm)
  refine q_endX (p := (al, cl, Sl)) (rt1 rfl (r_tmp rfl)) ?_ (fun w hw => ?_)
  ·exact (by have hcc := congrArg (fun (y0 : List Int) => (.slice al y0.length cl : Value)) hr0; exact hcc)
  ·have h2 := hw.pick (H' := [outer w0 [own tInt Sl al cl l], own tInt Sl al cl l]) [0, 1] (by decide) rfl
   exact Eq.mp (congrArg (fun z => HeapIs w0 ((outer w0 [own tInt Sl al cl l]) :: z) w) ((by have hcc := congrArg (fun (y0 : List Int) => ([own tInt Sl al cl y0] : List Ent)) hr0; exact hcc))) h2
 ·simp only [beq_eq_false_iff_ne, ne_eq] at hc1
  refine c_skip (q_then (c_seq (c_region ?_)))
  refine o_mv rfl rfl ?_
  refine o_p (p_len_slice rfl rfl Try.underlying45) ?_
  refine o_as rfl rfl ?_
  refine o_nil (q_then (c_seq ?_))
  refine c_cut (G := Unit) (fun _ => [(0, .slice al ((l.take i.toNat) ++ (l.drop j.toNat)).length cl), (7, Vi (l.length : Int))]) (fun _ => [outer w0 [own tInt Sl al cl l], own tInt Sl al cl ((l.take i.toNat) ++ (l.drop j.toNat))]) (fun K hK3 => ?_) ?_
  ·refine c_held hmix [outer w0 [own tInt Sl al cl l]] rfl rfl ?_
   refine h_tk (i := 0) (ls := #[T1,F0,F0,F0,F0,F0,F0,F0]) rfl (p_move rfl) (dp (lj (lz (ln)))) ?_
   refine h_tk (i := 1) (ls := #[T1,T1,F0,F0,F0,F0,F0,F0]) rfl (p_move rfl) (dp (lj (lz (ln)))) ?_
   refine h_tk (i := 3) (ls := #[T1,T1,F0,T1,F0,F0,F0,F0]) rfl (p_move rfl) (dp (lj (lz (ln)))) ?_
   refine h_tk (i := 4) (ls := #[T1,T1,F0,T1,T1,F0,F0,F0]) rfl (p_move rfl) (dp (lj (lz (ln)))) ?_
   refine h_two (i := 2) (j := 5) (ls := #[T1,T1,T1,T1,T1,F0,F0,F0]) (ls' := #[T1,T1,F0,T1,T1,T1,F0,F0]) (by kernel_rfl) rfl rfl rfl rfl ?_ ?_
   ·refine o_p (p_sliceH (L := l) (T := tInt) (h := i) rfl rfl Try.underlying45 sz3 (by omega) (by omega) (rd_own (i := 1) rfl)) ?_
    refine o_nil ?_
    refine h_next (dp (lj (lz (ln)))) ?_
    refine h_one (i := 5) (ls := #[T1,T1,T1,T1,T1,T1,F0,F0]) (by kernel_rfl) rfl rfl ?_
    refine o_p (p_sliceL (L := l) (T := tInt) (l := j) rfl rfl Try.underlying45 sz3 (by omega) (by omega) (rd_own (i := 1) rfl)) ?_
    refine o_nil ?_
    refine h_next (dp (lj (lz (ln)))) ?_
    refine h_one (i := 6) (ls := #[T1,T1,T1,T1,T1,T1,T1,F0]) (by kernel_rfl) rfl rfl ?_
    refine o_appendIn (i := 1) (m := i.toNat) (L := l) (M := (l.drop j.toNat)) (T := tInt) rfl rfl rfl (by omega) (rd_dropC (l := j.toNat) (rd_own (i := 1) rfl) (by omega)) Try.underlying45 Try.underlying45 (by intro k h; cases h) el3 (by intro z; simp [tInt, one1]) (by first | (simp only [List.length_drop]; omega) | (simp; omega)) rfl ?_
    refine o_nil ?_
    refine h_next (dp (lj (lz (ln)))) ?_
    refine h_tk (i := 7) (ls := #[T1,T1,T1,T1,T1,T1,T1,T1]) rfl (p_assign rfl) (dp (lj (lz (ln)))) ?_
    refine h_done (by kernel_rfl) ?_
    refine q_kont hK3 () (sr (sr (Sub.nil _))) (pk [0, 1])
   ·refine o_p (p_sliceL (L := l) (T := tInt) (l := j) rfl rfl Try.underlying45 sz3 (by omega) (by omega) (rd_own (i := 1) rfl)) ?_
    refine o_nil ?_
    refine h_next (dp (lj (lz (ln)))) ?_
    refine h_one (i := 2) (ls := #[T1,T1,T1,T1,T1,T1,F0,F0]) (by kernel_rfl) rfl rfl ?_
    refine o_p (p_sliceH (L := l) (T := tInt) (h := i) rfl rfl Try.underlying45 sz3 (by omega) (by omega) (rd_own (i := 1) rfl)) ?_
    refine o_nil ?_
    refine h_next (dp (lj (lz (ln)))) ?_
    refine h_one (i := 6) (ls := #[T1,T1,T1,T1,T1,T1,T1,F0]) (by kernel_rfl) rfl rfl ?_
    refine o_appendIn (i := 1) (m := i.toNat) (L := l) (M := (l.drop j.toNat)) (T := tInt) rfl rfl rfl (by omega) (rd_dropC (l := j.toNat) (rd_own (i := 1) rfl) (by omega)) Try.underlying45 Try.underlying45 (by intro k h; cases h) el3 (by intro z; simp [tInt, one1]) (by first | (simp only [List.length_drop]; omega) | (simp; omega)) rfl ?_
    refine o_nil ?_
    refine h_next (dp (lj (lz (ln)))) ?_
    refine h_tk (i := 7) (ls := #[T1,T1,T1,T1,T1,T1,T1,T1]) rfl (p_assign rfl) (dp (lj (lz (ln)))) ?_
    refine h_done (by kernel_rfl) ?_
    refine q_kont hK3 () (sr (sr (Sub.nil _))) (pk [0, 1])
  rintro _
  show SQ _ 33 w0 _ _ [(0, .slice al ((l.take i.toNat) ++ (l.drop j.toNat)).length cl), (7, Vi (l.length : Int))] [outer w0 [own tInt Sl al cl l], own tInt Sl al cl ((l.take i.toNat) ++ (l.drop j.toNat))]
  refine q_cast (F' := [(0, .slice al ((l.take i.toNat) ++ (l.drop j.toNat)).length cl), (7, Vi (l.length : Int))]) (H := [outer w0 [own tInt Sl al cl l], own tInt Sl al cl ((l.take i.toNat) ++ (l.drop j.toNat))]) (H' := [outer w0 [own tInt Sl al cl l], own tInt Sl al cl ((l.take i.toNat) ++ (l.drop j.toNat))]) (sr (sr (Sub.nil _))) (by rfl) ?_
  refine q_then (c_seq (c_region ?_))
  refine o_mv rfl rfl ?_
  refine o_mv rfl rfl ?_
  refine o_p (p_len_slice rfl rfl Try.underlying45) ?_
  refine o_mv rfl rfl ?_
  refine o_p (p_sliceTail (i := 1) (L := ((l.take i.toNat) ++ (l.drop j.toNat))) (T := tInt) (h := (l.length : Int)) (m := (l.length - (l.take i.toNat ++ l.drop j.toNat).length)) rfl rfl rfl rfl Try.underlying45 sz3 (by simp only [List.length_append, List.length_take, List.length_drop]; omega)) ?_
  refine o_clearTail (i := 1) (T := tInt) (m := (l.length - (l.take i.toNat ++ l.drop j.toNat).length)) rfl rfl rfl Try.underlying45 ze3 rfl rfl (by first | omega | (simp only [List.length_append, List.length_take, List.length_drop]; omega)) ?_
  refine o_nil (q_then (c_seq (c_region ?_)))
  refine o_mv rfl rfl ?_
  refine o_as rfl rfl ?_
  refine o_nil (q_then (c_ret ?_))
  have hr0 : (((l.take i.toNat) ++ (l.drop j.toNat)) : List Int) = (l.take i.toNat ++ l.drop j.toNat) := by
   first | rfl | (have hij : i = j := (by assumption); subst hij; exact (List.take_append_drop _ _).symm)
  refine q_endX (p := (al, cl, Sl)) (rt1 rfl (r_tmp rfl)) ?_ (fun w hw => ?_)
  ·exact (by have hcc := congrArg (fun (y0 : List Int) => (.slice al y0.length cl : Value)) hr0; exact hcc)
  ·have h2 := hw.pick (H' := [outer w0 [own tInt Sl al cl l], own tInt Sl al cl ((l.take i.toNat) ++ (l.drop j.toNat))]) [0, 1] (by decide) rfl
   exact Eq.mp (congrArg (fun z => HeapIs w0 ((outer w0 [own tInt Sl al cl l]) :: z) w) ((by have hcc := congrArg (fun (y0 : List Int) => ([own tInt Sl al cl y0] : List Ent)) hr0; exact hcc))) h2

set_option maxHeartbeats 8000000 in
set_option maxRecDepth 100000 in
theorem insert_Int_ok (l : List Int) (al : Option Addr) (cl : Nat) (Sl : Nat → Prop) (i : Int) (v : List Int) (av : Option Addr) (cv : Nat) (Sv : Nat → Prop) (hy1 : 0 ≤ i ∧ i ≤ (l.length : Int) ∧ l.length ≤ 1000000 ∧ v.length = 1) : FnX Try.prog 110 [.slice al l.length cl, Vi i, .slice av v.length cv] [own tInt Sl al cl l, own tInt Sv av cv v] (fun _ => True) (Option Addr × Nat × (Nat → Prop)) (fun p => .slice p.1 (l.take i.toNat ++ v ++ l.drop i.toNat).length p.2.1) (fun p => [own tInt p.2.2 p.1 p.2.1 (l.take i.toNat ++ v ++ l.drop i.toNat)]) := by
 refine fnX (nt := 95) (F0 := [(0, .slice al l.length cl), (1, Vi i), (2, .slice av v.length cv)]) Try.func110 rfl Try.ntmps110 rfl rfl (fun w0 hpre => ?_)
 refine c_know (fun w hw => own_len (i := 1) (T := tInt) hw rfl) (fun hlown_l => ?_)
 obtain ⟨hcown_l, hlown_l⟩ := hlown_l
 refine c_know (fun w hw => own_len (i := 2) (T := tInt) hw rfl) (fun hlown_v => ?_)
 obtain ⟨hcown_v, hlown_v⟩ := hlown_v
 refine c_seq (c_region ?_)
 refine o_as rfl rfl ?_
 refine o_nil (q_then (c_seq (c_region ?_)))
 refine o_mv rfl rfl ?_
 refine o_mv rfl rfl ?_
 refine o_p (p_sliceL (L := l) (T := tInt) (l := i) rfl rfl Try.underlying45 sz3 (by first | omega | (simp only [List.length_append, List.length_take, List.length_replicate, List.length_drop, List.length_set]; omega)) (by first | omega | (simp only [List.length_append, List.length_take, List.length_replicate, List.length_drop, List.length_set]; omega)) (rd_own (i := 1) rfl)) ?_
 refine o_nil (q_then (c_seq (c_region ?_)))
 refine o_mv rfl rfl ?_
 refine o_p (p_len_slice rfl rfl Try.underlying45) ?_
 refine o_as rfl rfl ?_
 refine o_nil (q_then (c_seq (c_seq (c_region ?_))))
 refine o_mv rfl rfl ?_
 refine o_p (p_eq rfl rfl) ?_
 refine o_nil (q_then ?_)
 refine c_cond rfl (fun hc1 => ?_) (fun hc1 => ?_)
 ·simp only [beq_iff_eq] at hc1
  exfalso; omega
 ·simp only [beq_eq_false_iff_ne, ne_eq] at hc1
  refine c_skip (q_then (c_seq (c_region ?_)))
  refine o_mv rfl rfl ?_
  refine o_p (p_len_slice rfl rfl Try.underlying45) ?_
  refine o_as rfl rfl ?_
  refine o_nil (q_then (c_seq (c_seq (c_region ?_))))
  refine o_mv rfl rfl ?_
  refine o_mv rfl rfl ?_
  refine o_p (p_eq rfl rfl) ?_
  refine o_nil (q_then ?_)
  refine c_cond rfl (fun hc2 => ?_) (fun hc2 => ?_)
  ·simp only [beq_iff_eq] at hc2
   refine c_seq (c_region ?_)
   refine o_mv rfl rfl ?_
   refine o_mv rfl rfl ?_
   refine o_append (i := 1) (L := l) (M := v) (T := tInt) rfl rfl rfl (rd_own (i := 2) rfl) Try.underlying45 Try.underlying45 (by intro k h; cases h) el3 (by intro z; simp [tInt, one1]) (by decide) (by first | omega | (simp only [List.length_cons, List.length_nil]; omega) | (simp only [List.length_append, List.length_cons, List.length_nil, List.length_take, List.length_drop]; omega)) rfl (fun a3 c4 S5 => ?_)
   refine o_as rfl rfl ?_
   refine o_nil (q_then (c_ret ?_))
   refine q_then_ret ?_
   have hr0 : ((l ++ v) : List Int) = (l.take i.toNat ++ v ++ l.drop i.toNat) := by
    first | rfl | (obtain rfl : i = (l.length : Int) := (by assumption); simp)
   refine q_endX (p := (a3, c4, S5)) (rt1 rfl (r_tmp rfl)) ?_ (fun w hw => ?_)
   ·exact (by have hcc := congrArg (fun (y0 : List Int) => (.slice a3 y0.length c4 : Value)) hr0; exact hcc)
   ·have h2 := hw.pick (H' := [outer w0 [own tInt Sl al cl l, own tInt Sv av cv v], own tInt S5 a3 c4 (l ++ v)]) [0, 1] (by decide) rfl
    exact Eq.mp (congrArg (fun z => HeapIs w0 ((outer w0 [own tInt Sl al cl l, own tInt Sv av cv v]) :: z) w) ((by have hcc := congrArg (fun (y0 : List Int) => ([own tInt S5 a3 c4 y0] : List Ent)) hr0; exact hcc))) h2
  ·simp only [beq_eq_false_iff_ne, ne_eq] at hc2
   refine c_skip (q_then (c_seq (c_seq (c_region ?_))))
   refine o_mv rfl rfl ?_
   refine o_mv rfl rfl ?_
   refine o_p (p_addb rfl rfl (by omega)) ?_
   refine o_mv rfl rfl ?_
   refine o_p (p_cap_slice rfl rfl Try.underlying45) ?_
   refine o_p (p_gt rfl rfl) ?_
   refine o_nil (q_then ?_)
   refine c_cond rfl (fun hc6 => ?_) (fun hc6 => ?_)
   ·simp only [decide_eq_true_eq] at hc6
    refine c_seq (c_region ?_)
    refine o_mv rfl rfl ?_
    refine o_mv rfl rfl ?_
    refine o_p (p_sliceH (L := l) (T := tInt) (h := i) rfl rfl Try.underlying45 sz3 (by first | omega | (simp only [List.length_append, List.length_take, List.length_replicate, List.length_drop, List.length_set]; omega)) (by first | omega | (simp only [List.length_append, List.length_take, List.length_replicate, List.length_drop, List.length_set]; omega)) (rd_own (i := 1) rfl)) ?_
    refine o_mv rfl rfl ?_
    refine o_mv rfl rfl ?_
    refine o_p (p_addb rfl rfl (by omega)) ?_
    refine o_mv rfl rfl ?_
    refine o_p (p_subb rfl rfl (by omega)) ?_
    refine o_appendZ (i := 1) (m := i.toNat) (k := (l.length + v.length - i.toNat)) (L := l) (T := tInt) (z := 0) rfl rfl rfl (by omega) Try.underlying45 Try.underlying3 el3 ze3 rfl (by decide) (by omega) rfl (fun a7 c8 S9 => ?_)
    refine o_know (fun w hw => own_len (i := 0) (T := tInt) hw rfl) (fun hlz11 => ?_)
    have hlz11b : ((l.take i.toNat) ++ (List.replicate (l.length + v.length - i.toNat) 0)).length = l.length + v.length := by simp only [List.length_append, List.length_take, List.length_replicate, List.length_drop, List.length_set]; omega
    refine o_as rfl rfl ?_
    refine o_nil (q_then (c_seq (c_region ?_)))
    refine o_mv rfl rfl ?_
    refine o_mv rfl rfl ?_
    refine o_p (p_sliceL (L := ((l.take i.toNat) ++ (List.replicate (l.length + v.length - i.toNat) 0))) (T := tInt) (l := i) rfl rfl Try.underlying45 sz3 (by first | omega | (simp only [List.length_append, List.length_take, List.length_replicate, List.length_drop, List.length_set]; omega)) (by first | omega | (simp only [List.length_append, List.length_take, List.length_replicate, List.length_drop, List.length_set]; omega)) (rd_own (i := 0) rfl)) ?_
    refine o_mv rfl rfl ?_
    refine o_copy (i := 0) (lo := i.toNat) (M := v) (T := tInt) (L := ((l.take i.toNat) ++ (List.replicate (l.length + v.length - i.toNat) 0))) (m := 1) (F' := [(0, .slice al l.length cl), (1, Vi i), (7, Vi (v.length : Int)), (9, .slice a7 (l.take i.toNat ++ v ++ List.replicate (l.length - i.toNat) 0).length c8)]) rfl rfl rfl (rd_own (i := 3) rfl) (by (try simp only [List.length_append, List.length_take, List.length_replicate, List.length_drop, List.length_set]); omega) Try.underlying45 sz3 (by intro z; simp [tInt, one1]) (by (try simp only [List.length_append, List.length_take, List.length_replicate, List.length_drop, List.length_set]); omega) rfl (by omega) (sr (sr (sr (Sub.cons (by show some _ = some _; congr 2; first | (simp; omega) | simp) (Sub.nil _))))) ?_
    refine o_asH (H := [own tInt S9 a7 c8 (((l.take i.toNat) ++ (List.replicate (l.length + v.length - i.toNat) 0)).take i.toNat ++ v ++ ((l.take i.toNat) ++ (List.replicate (l.length + v.length - i.toNat) 0)).drop (i.toNat + v.length)), outer w0 [own tInt Sl al cl l, own tInt Sv av cv v], own tInt Sl al cl l, own tInt Sv av cv v]) (H' := [own tInt S9 a7 c8 (l.take i.toNat ++ v ++ List.replicate (l.length - i.toNat) 0), outer w0 [own tInt Sl al cl l, own tInt Sv av cv v], own tInt Sl al cl l, own tInt Sv av cv v]) (by have hins : ((((l.take i.toNat) ++ (List.replicate (l.length + v.length - i.toNat) 0)).take i.toNat ++ v ++ ((l.take i.toNat) ++ (List.replicate (l.length + v.length - i.toNat) 0)).drop (i.toNat + v.length)) : List Int) = (l.take i.toNat ++ v ++ List.replicate (l.length - i.toNat) 0) := (by exact ins_a (by omega) (by omega)); rw [hins]) ?_
    refine o_nil (q_then (c_seq ?_))
    refine c_held hmix [ownE tInt S9 a7 c8 ((l.take i.toNat ++ v ++ List.replicate (l.length - i.toNat) 0).length), outer w0 [own tInt Sl al cl l, own tInt Sv av cv v], own tInt Sl al cl l, own tInt Sv av cv v] rfl rfl ?_
    refine h_tk (i := 0) (ls := #[T1,F0,F0,F0,F0,F0,F0,F0,F0]) rfl (p_move rfl) (fun _ hw => HeapIs.drop (HeapIs.toE (i := 0) (m := (l.take i.toNat ++ v ++ List.replicate (l.length - i.toNat) 0).length) (T := tInt) rfl (by first | rfl | (simp; done) | (simp; omega)) hw) (lr)) ?_
    refine h_tk (i := 1) (ls := #[T1,T1,F0,F0,F0,F0,F0,F0,F0]) rfl (p_move rfl) (fun _ hw => HeapIs.drop (HeapIs.toE (i := 0) (m := (l.take i.toNat ++ v ++ List.replicate (l.length - i.toNat) 0).length) (T := tInt) rfl (by first | rfl | (simp; done) | (simp; omega)) hw) (lr)) ?_
    refine h_tk (i := 2) (ls := #[T1,T1,T1,F0,F0,F0,F0,F0,F0]) rfl (p_move rfl) (fun _ hw => HeapIs.drop (HeapIs.toE (i := 0) (m := (l.take i.toNat ++ v ++ List.replicate (l.length - i.toNat) 0).length) (T := tInt) rfl (by first | rfl | (simp; done) | (simp; omega)) hw) (lr)) ?_
    refine h_tk (i := 3) (ls := #[T1,T1,T1,T1,F0,F0,F0,F0,F0]) rfl (p_addb rfl rfl (by omega)) (fun _ hw => HeapIs.drop (HeapIs.toE (i := 0) (m := (l.take i.toNat ++ v ++ List.replicate (l.length - i.toNat) 0).length) (T := tInt) rfl (by first | rfl | (simp; done) | (simp; omega)) hw) (lr)) ?_
    refine h_tk (i := 4) (ls := #[T1,T1,T1,T1,T1,F0,F0,F0,F0]) rfl (p_sliceLE (j := 0) (m := (l.take i.toNat ++ v ++ List.replicate (l.length - i.toNat) 0).length) (T := tInt) (l := (i + (v.length : Int))) rfl rfl rfl Try.underlying45 sz3 (by omega) (by first | omega | (simp; omega))) (fun _ hw => HeapIs.drop (HeapIs.toE (i := 0) (m := (l.take i.toNat ++ v ++ List.replicate (l.length - i.toNat) 0).length) (T := tInt) rfl (by first | rfl | (simp; done) | (simp; omega)) hw) (lr)) ?_
    refine h_tk (i := 5) (ls := #[T1,T1,T1,T1,T1,T1,F0,F0,F0]) rfl (p_move rfl) (fun _ hw => HeapIs.drop (HeapIs.toE (i := 0) (m := (l.take i.toNat ++ v ++ List.replicate (l.length - i.toNat) 0).length) (T := tInt) rfl (by first | rfl | (simp; done) | (simp; omega)) hw) (lr)) ?_
    refine h_tk (i := 6) (ls := #[T1,T1,T1,T1,T1,T1,T1,F0,F0]) rfl (p_move rfl) (fun _ hw => HeapIs.drop (HeapIs.toE (i := 0) (m := (l.take i.toNat ++ v ++ List.replicate (l.length - i.toNat) 0).length) (T := tInt) rfl (by first | rfl | (simp; done) | (simp; omega)) hw) (lr)) ?_
    refine h_tk (i := 7) (ls := #[T1,T1,T1,T1,T1,T1,T1,T1,F0]) rfl (p_sliceL (L := l) (T := tInt) (l := i) rfl rfl Try.underlying45 sz3 (by first | omega | (simp only [List.length_append, List.length_take, List.length_replicate, List.length_drop, List.length_set]; omega)) (by first | omega | (simp only [List.length_append, List.length_take, List.length_replicate, List.length_drop, List.length_set]; omega)) (rd_own (i := 2) rfl)) (fun _ hw => HeapIs.drop (HeapIs.toE (i := 0) (m := (l.take i.toNat ++ v ++ List.replicate (l.length - i.toNat) 0).length) (T := tInt) rfl (by first | rfl | (simp; done) | (simp; omega)) hw) (lr)) ?_
    refine h_one (i := 8) (ls := #[T1,T1,T1,T1,T1,T1,T1,T1,T1]) (by kernel_rfl) rfl rfl ?_
    refine o_copy (i := 0) (lo := (i + (v.length : Int)).toNat) (M := (l.drop i.toNat)) (T := tInt) (L := (l.take i.toNat ++ v ++ List.replicate (l.length - i.toNat) 0)) (m := (l.length - i.toNat)) (F' := [(0, .slice al l.length cl), (1, Vi i), (7, Vi (v.length : Int)), (9, .slice a7 (l.take i.toNat ++ v ++ l.drop i.toNat).length c8)]) rfl rfl rfl (rd_dropC (l := i.toNat) (rd_own (i := 2) rfl) (by first | omega | (simp only [List.length_append, List.length_take, List.length_replicate, List.length_drop, List.length_set]; omega))) (by (try simp only [List.length_append, List.length_take, List.length_replicate, List.length_drop, List.length_set]); omega) Try.underlying45 sz3 (by intro z; simp [tInt, one1]) (by (try simp only [List.length_append, List.length_take, List.length_replicate, List.length_drop, List.length_set]); omega) rfl (by simp) (sr (sr (sr (Sub.cons (by show some _ = some _; congr 2; first | (simp; omega) | simp) (Sub.nil _))))) ?_
    refine o_asH (H := [own tInt S9 a7 c8 ((l.take i.toNat ++ v ++ List.replicate (l.length - i.toNat) 0).take ((i + (v.length : Int)).toNat) ++ (l.drop i.toNat) ++ (l.take i.toNat ++ v ++ List.replicate (l.length - i.toNat) 0).drop (((i + (v.length : Int)).toNat) + (l.drop i.toNat).length)), outer w0 [own tInt Sl al cl l, own tInt Sv av cv v], own tInt Sl al cl l, own tInt Sv av cv v]) (H' := [own tInt S9 a7 c8 (l.take i.toNat ++ v ++ l.drop i.toNat), outer w0 [own tInt Sl al cl l, own tInt Sv av cv v], own tInt Sl al cl l, own tInt Sv av cv v]) (by have hins : (((l.take i.toNat ++ v ++ List.replicate (l.length - i.toNat) 0).take ((i + (v.length : Int)).toNat) ++ (l.drop i.toNat) ++ (l.take i.toNat ++ v ++ List.replicate (l.length - i.toNat) 0).drop (((i + (v.length : Int)).toNat) + (l.drop i.toNat).length)) : List Int) = (l.take i.toNat ++ v ++ l.drop i.toNat) := (by exact ins_b (by omega) (by omega) (by omega)); rw [hins]) ?_
    refine o_nil ?_
    refine h_next (fun _ hw => HeapIs.drop (HeapIs.toE (i := 0) (m := (l.take i.toNat ++ v ++ List.replicate (l.length - i.toNat) 0).length) (T := tInt) rfl (by first | rfl | (simp; done) | (simp; omega)) hw) (lr)) ?_
    refine h_done (by kernel_rfl) ?_
    refine q_cast (F' := [(9, .slice a7 (l.take i.toNat ++ v ++ l.drop i.toNat).length c8)]) (H := [own tInt S9 a7 c8 (l.take i.toNat ++ v ++ l.drop i.toNat), outer w0 [own tInt Sl al cl l, own tInt Sv av cv v], own tInt Sl al cl l, own tInt Sv av cv v]) (H' := [own tInt S9 a7 c8 (l.take i.toNat ++ v ++ l.drop i.toNat), outer w0 [own tInt Sl al cl l, own tInt Sv av cv v], own tInt Sl al cl l, own tInt Sv av cv v]) (sr (Sub.nil _)) (by rfl) ?_
    refine q_then (c_seq (c_region ?_))
    refine o_mv rfl rfl ?_
    refine o_as rfl rfl ?_
    refine o_nil (q_then (c_ret ?_))
    refine q_then_ret ?_
    refine q_endX (p := (a7, c8, S9)) (rt1 rfl (r_tmp rfl)) ?_ (fun w hw => ?_)
    ·exact rfl
    ·have h2 := hw.pick (H' := [outer w0 [own tInt Sl al cl l, own tInt Sv av cv v], own tInt S9 a7 c8 (l.take i.toNat ++ v ++ l.drop i.toNat)]) [1, 0] (by decide) rfl
     exact Eq.mp (congrArg (fun z => HeapIs w0 ((outer w0 [own tInt Sl al cl l, own tInt Sv av cv v]) :: z) w) (rfl)) h2
   ·simp only [decide_eq_false_iff_not, Int.not_lt] at hc6
    refine c_skip (q_then (c_seq (c_region ?_)))
    refine o_mv rfl rfl ?_
    refine o_mv rfl rfl ?_
    refine o_mv rfl rfl ?_
    refine o_p (p_addb rfl rfl (by omega)) ?_
    refine o_p (p_slice0 (hi := (l.length + v.length)) (hv := ((l.length : Int) + (v.length : Int))) rfl rfl Try.underlying45 sz3 (by omega) (by omega)) ?_
    refine o_as rfl rfl ?_
    refine o_nil (q_then (c_seq (c_seq (c_region ?_))))
    refine o_mv rfl rfl ?_
    refine o_mv rfl rfl ?_
    refine o_mv rfl rfl ?_
    refine o_mv rfl rfl ?_
    refine o_p (p_addb rfl rfl (by omega)) ?_
    refine o_p (p_slice (l := (i.toNat + 1)) (hi := (l.length + v.length)) (m := cl) (lv := some (Vi (i + (v.length : Int)))) (hv := none) (mv := none) rfl rfl rfl rfl Try.underlying45 sz3 (.inr ⟨.i64, by congr 1; congr 1; omega⟩) (.inl ⟨rfl, rfl⟩) (.inl ⟨rfl, rfl⟩) (fun _ => rfl) (by omega) (by omega) (Nat.le_refl _) rfl) ?_
    refine o_p (p_overlaps (tS := 45) (tR := 4) (i := 1) (j := 2) (lo := (i.toNat + 1)) (M := v) Try.func119 (by kernel_rfl) (by kernel_rfl) (by kernel_rfl) (by kernel_rfl) rfl rfl rfl rfl (by decide) Try.underlying45 sz3 (by omega) (by omega) (by decide)) ?_
    refine o_p (p_not (b := false) rfl) ?_
    refine o_nil (q_then ?_)
    refine c_true rfl ?_
    refine c_seq ?_
    refine c_held hmix [outer w0 [own tInt Sl al cl l, own tInt Sv av cv v], own tInt Sv av cv v] rfl rfl ?_
    refine h_tk (i := 0) (ls := #[T1,F0,F0,F0,F0,F0,F0,F0,F0]) rfl (p_move rfl) (dp (lj (lz (lj (ln))))) ?_
    refine h_tk (i := 1) (ls := #[T1,T1,F0,F0,F0,F0,F0,F0,F0]) rfl (p_move rfl) (dp (lj (lz (lj (ln))))) ?_
    refine h_tk (i := 2) (ls := #[T1,T1,T1,F0,F0,F0,F0,F0,F0]) rfl (p_move rfl) (dp (lj (lz (lj (ln))))) ?_
    refine h_tk (i := 3) (ls := #[T1,T1,T1,T1,F0,F0,F0,F0,F0]) rfl (p_addb rfl rfl (by omega)) (dp (lj (lz (lj (ln))))) ?_
    refine h_tk (i := 4) (ls := #[T1,T1,T1,T1,T1,F0,F0,F0,F0]) rfl (p_slice (l := (i.toNat + 1)) (hi := (l.length + v.length)) (m := cl) (lv := some (Vi (i + (v.length : Int)))) (hv := none) (mv := none) rfl rfl rfl rfl Try.underlying45 sz3 (.inr ⟨.i64, by congr 1; congr 1; omega⟩) (.inl ⟨rfl, rfl⟩) (.inl ⟨rfl, rfl⟩) (fun _ => rfl) (by omega) (by omega) (Nat.le_refl _) rfl) (dp (lj (lz (lj (ln))))) ?_
    refine h_tk (i := 5) (ls := #[T1,T1,T1,T1,T1,T1,F0,F0,F0]) rfl (p_move rfl) (dp (lj (lz (lj (ln))))) ?_
    refine h_tk (i := 6) (ls := #[T1,T1,T1,T1,T1,T1,T1,F0,F0]) rfl (p_move rfl) (dp (lj (lz (lj (ln))))) ?_
    refine h_tk (i := 7) (ls := #[T1,T1,T1,T1,T1,T1,T1,T1,F0]) rfl (p_slice (l := i.toNat) (hi := (l.length + v.length)) (m := cl) (lv := some (Vi i)) (hv := none) (mv := none) rfl rfl rfl rfl Try.underlying45 sz3 (.inr ⟨.i64, by congr 1; congr 1; omega⟩) (.inl ⟨rfl, rfl⟩) (.inl ⟨rfl, rfl⟩) (fun _ => rfl) (by omega) (by omega) (Nat.le_refl _) rfl) (dp (lj (lz (lj (ln))))) ?_
    refine h_one (i := 8) (ls := #[T1,T1,T1,T1,T1,T1,T1,T1,T1]) (by kernel_rfl) rfl rfl ?_
    refine o_copy (i := 1) (lo := (i.toNat + 1)) (M := (l.drop i.toNat)) (T := tInt) (L := l) (m := (l.length - i.toNat)) (F' := [(0, .slice al (l.take (i.toNat + 1) ++ l.drop i.toNat).length cl), (1, Vi i), (2, .slice av v.length cv), (7, Vi (v.length : Int)), (8, Vi (l.length : Int)), (68, .bool true)]) rfl rfl rfl (rd_dropC (l := i.toNat) (rd_own (i := 1) rfl) (by omega)) (by (try simp only [List.length_append, List.length_take, List.length_replicate, List.length_drop, List.length_set]); omega) Try.underlying45 sz3 (by intro z; simp [tInt, one1]) (by (try simp only [List.length_append, List.length_take, List.length_replicate, List.length_drop, List.length_set]); omega) rfl (by simp) (Sub.cons (by show some _ = some _; congr 2; first | (simp; omega) | simp) (sr (sr (sr (sr (sr (Sub.nil _))))))) ?_
    refine o_asH (H := [outer w0 [own tInt Sl al cl l, own tInt Sv av cv v], own tInt Sl al cl (l.take (i.toNat + 1) ++ (l.drop i.toNat) ++ l.drop ((i.toNat + 1) + (l.drop i.toNat).length)), own tInt Sv av cv v]) (H' := [outer w0 [own tInt Sl al cl l, own tInt Sv av cv v], own tInt Sl al cl (l.take (i.toNat + 1) ++ l.drop i.toNat), own tInt Sv av cv v]) (by have hins : ((l.take (i.toNat + 1) ++ (l.drop i.toNat) ++ l.drop ((i.toNat + 1) + (l.drop i.toNat).length)) : List Int) = (l.take (i.toNat + 1) ++ l.drop i.toNat) := (by exact ins_c (by omega) (by omega)); rw [hins]) ?_
    refine o_nil ?_
    refine h_next (dp (lj (lz (lj (ln))))) ?_
    refine h_done (by kernel_rfl) ?_
    refine q_cast (F' := [(0, .slice al (l.take (i.toNat + 1) ++ l.drop i.toNat).length cl), (1, Vi i), (2, .slice av v.length cv)]) (H := [outer w0 [own tInt Sl al cl l, own tInt Sv av cv v], own tInt Sl al cl (l.take (i.toNat + 1) ++ l.drop i.toNat), own tInt Sv av cv v]) (H' := [outer w0 [own tInt Sl al cl l, own tInt Sv av cv v], own tInt Sl al cl (l.take (i.toNat + 1) ++ l.drop i.toNat), own tInt Sv av cv v]) (sr (sr (sr (Sub.nil _)))) (by rfl) ?_
    refine q_then (c_seq (c_region ?_))
    refine o_mv rfl rfl ?_
    refine o_mv rfl rfl ?_
    refine o_p (p_sliceL (L := (l.take (i.toNat + 1) ++ l.drop i.toNat)) (T := tInt) (l := i) rfl rfl Try.underlying45 sz3 (by first | omega | (simp only [List.length_append, List.length_take, List.length_replicate, List.length_drop, List.length_set]; omega)) (by first | omega | (simp only [List.length_append, List.length_take, List.length_replicate, List.length_drop, List.length_set]; omega)) (rd_own (i := 1) rfl)) ?_
    refine o_mv rfl rfl ?_
    refine o_copy (i := 1) (lo := i.toNat) (M := v) (T := tInt) (L := (l.take (i.toNat + 1) ++ l.drop i.toNat)) (m := 1) (F' := [(0, .slice al (l.take i.toNat ++ v ++ l.drop i.toNat).length cl)]) rfl rfl rfl (rd_own (i := 2) rfl) (by (try simp only [List.length_append, List.length_take, List.length_replicate, List.length_drop, List.length_set]); omega) Try.underlying45 sz3 (by intro z; simp [tInt, one1]) (by (try simp only [List.length_append, List.length_take, List.length_replicate, List.length_drop, List.length_set]); omega) rfl (by omega) (Sub.cons (by show some _ = some _; congr 2; first | (simp; omega) | simp) (Sub.nil _)) ?_
    refine o_asH (H := [outer w0 [own tInt Sl al cl l, own tInt Sv av cv v], own tInt Sl al cl ((l.take (i.toNat + 1) ++ l.drop i.toNat).take i.toNat ++ v ++ (l.take (i.toNat + 1) ++ l.drop i.toNat).drop (i.toNat + v.length)), own tInt Sv av cv v]) (H' := [outer w0 [own tInt Sl al cl l, own tInt Sv av cv v], own tInt Sl al cl (l.take i.toNat ++ v ++ l.drop i.toNat), own tInt Sv av cv v]) (by have hins : (((l.take (i.toNat + 1) ++ l.drop i.toNat).take i.toNat ++ v ++ (l.take (i.toNat + 1) ++ l.drop i.toNat).drop (i.toNat + v.length)) : List Int) = (l.take i.toNat ++ v ++ l.drop i.toNat) := (by exact ins_d (by omega) (by omega)); rw [hins]) ?_
    refine o_nil (q_then (c_seq (c_region ?_)))
    refine o_mv rfl rfl ?_
    refine o_as rfl rfl ?_
    refine o_nil (q_then (c_ret ?_))
    refine q_then_ret ?_
    refine q_endX (p := (al, cl, Sl)) (rt1 rfl (r_tmp rfl)) ?_ (fun w hw => ?_)
    ·exact rfl
    ·have h2 := hw.pick (H' := [outer w0 [own tInt Sl al cl l, own tInt Sv av cv v], own tInt Sl al cl (l.take i.toNat ++ v ++ l.drop i.toNat)]) [0, 1] (by decide) rfl
     exact Eq.mp (congrArg (fun z => HeapIs w0 ((outer w0 [own tInt Sl al cl l, own tInt Sv av cv v]) :: z) w) (rfl)) h2

set_option maxHeartbeats 8000000 in
set_option maxRecDepth 100000 in
theorem keys_ok (l : List Int) (al : Option Addr) (cl : Nat) : Fn0 Try.prog 106 [.slice al l.length cl] (fun w => Rd tInt w al cl l) (Vi (Lru.keys l)) := by
 refine fn0 (nt := 29) (F0 := [(0, .slice al l.length cl)]) Try.func106 rfl Try.ntmps106 rfl rfl (fun w0 hpre => ?_)
 have hl := hpre
 have hlhl := hl.2.1
 refine c_seq (c_region ?_)
 refine o_as rfl rfl ?_
 refine o_nil (q_then (c_seq (c_region ?_)))
 refine o_makeMap (ν := Unit) kInt (fun _ => .agg #[]) rfl (fun B1 => ?_)
 refine o_as rfl rfl ?_
 refine o_nil (q_then (c_seq (c_seq (c_region ?_))))
 refine o_mv rfl rfl ?_
 refine o_p (p_len_slice rfl rfl Try.underlying45) ?_
 refine o_mv rfl rfl ?_
 refine o_nil (q_then (c_block ?_))
 refine c_loop (St := Nat × List (Int × Unit))
  (fun ⟨k, m⟩ => [(3, .map (some B1)), (9, .slice al l.length cl), (10, Vi (l.length : Int)), (11, Vi (k : Int))])
  (fun ⟨k, m⟩ => [mapE kInt (fun _ => .agg #[]) B1 m, base w0])
  (fun ⟨k, m⟩ => k ≤ l.length ∧ Lru.keysGo (l.take k) (l.drop k) = Lru.keys l ∧ Lru.Seen m l k)
  (fun ⟨k, m⟩ => l.length - k)
  (0, []) ?_ (sr (sr (sr (sr (Sub.nil _))))) (fun _ hw => hw) ?_
 ·exact ⟨Nat.zero_le _, rfl, Lru.Seen.start l⟩
 rintro ⟨k, m⟩ hI K hK2
 obtain ⟨hI1, hI2, hI3⟩ := hI
 show SC _ _ Try.prog 29 w0 _ _ [(3, .map (some B1)), (9, .slice al l.length cl), (10, Vi (l.length : Int)), (11, Vi (k : Int))] [mapE kInt (fun _ => .agg #[]) B1 m, base w0]
 refine c_seq (c_region ?_)
 refine o_p (p_lt rfl rfl) ?_
 refine o_nil (q_then (c_seq ?_))
 refine c_cond rfl (fun hc3 => ?_) (fun hc3 => ?_)
 ·simp only [decide_eq_true_eq] at hc3
  refine c_skip (q_then (c_seq (c_block (c_seq (c_region ?_)))))
  refine o_p (p_indexAddr (L := l) (T := tInt) (i := (k : Int)) rfl rfl (rd_base (i := 1) rfl hl) Try.underlying45 sz3 (by omega) (by omega)) ?_
  refine o_p (p_loadE1 (i := k) (T := tInt) (L := l) (v := Vi (l[k])) rfl (rd_base (i := 1) rfl hl) (by first | assumption | omega) sh3 rfl) ?_
  refine o_as rfl rfl ?_
  refine o_nil (q_then (c_seq (c_seq (c_region ?_))))
  refine o_mv rfl rfl ?_
  refine o_call0 (v := .bool (Lru.okKey (l[k]))) rfl (key_ok (l[k])) hf85 (fun _ _ => trivial) rfl ?_
  refine o_p (p_not (b := (Lru.okKey (l[k]))) rfl) ?_
  refine o_nil (q_then ?_)
  refine c_cond rfl (fun hc4 => ?_) (fun hc4 => ?_)
  ·simp only [Bool.not_eq_true'] at hc4
   refine c_seq (c_region ?_)
   refine o_as rfl rfl ?_
   refine o_nil (q_then (c_ret ?_))
   refine q_then_ret (q_block_ret (q_then_ret (q_then_ret (q_block_ret (q_then_ret ?_)))))
   have hr0 : (3 : Int) = (Lru.keys l) := by
    first | exact Lru.keys_bad (by omega) hI2 (by assumption) | exact Lru.keys_twice (by omega) hI2 (by assumption) ((hI3 _).1 (by assumption)) | exact Lru.keys_end (by omega) hI2
   refine q_end0 (v := Vi 3) (rt1 rfl (r_tmp rfl)) (i := 1) rfl ?_
   exact (by have hcc := congrArg (fun (y0 : Int) => (.int .i64 y0 : Value)) hr0; exact hcc)
  ·simp only [Bool.not_eq_false'] at hc4
   refine c_skip (q_then (c_seq (c_seq (c_region ?_))))
   refine o_mv rfl rfl ?_
   refine o_mv rfl rfl ?_
   refine o_p (p_lookup2 (i := 0) (K := kInt) (ve := (fun _ => .agg #[])) (m := m) (k := l[k]) (dflt := ()) rfl rfl rfl Try.underlying145 Try.underlying3 zv101) ?_
   refine o_mv rfl rfl ?_
   refine o_ex rfl rfl rfl ?_
   refine o_ex rfl rfl rfl ?_
   refine o_alloc ze101 rfl (fun B5 => ?_)
   refine o_storeN (i := 0) (vs := []) (cs' := []) rfl rfl rfl sz101 rfl rfl rfl rfl ?_
   refine o_as rfl rfl ?_
   refine o_nil (q_then (c_seq (c_region ?_)))
   refine o_mv rfl rfl ?_
   refine o_nil (q_then ?_)
   refine c_cond rfl (fun hc6 => ?_) (fun hc6 => ?_)
   ·skip
    refine c_seq (c_region ?_)
    refine o_as rfl rfl ?_
    refine o_nil (q_then (c_ret ?_))
    refine q_then_ret (q_block_ret (q_then_ret (q_then_ret (q_block_ret (q_then_ret ?_)))))
    have hr0 : (6 : Int) = (Lru.keys l) := by
     first | exact Lru.keys_bad (by omega) hI2 (by assumption) | exact Lru.keys_twice (by omega) hI2 (by assumption) ((hI3 _).1 (by assumption)) | exact Lru.keys_end (by omega) hI2
    refine q_end0 (v := Vi 6) (rt1 rfl (r_tmp rfl)) (i := 2) rfl ?_
    exact (by have hcc := congrArg (fun (y0 : Int) => (.int .i64 y0 : Value)) hr0; exact hcc)
   ·skip
    refine c_skip (q_then (c_region ?_))
    refine o_mv rfl rfl ?_
    refine o_mv rfl rfl ?_
    refine o_p (p_build (cells := []) fp101 ze101 rfl rfl) ?_
    refine o_mapUpdate (i := 1) (K := kInt) (ve := (fun _ => .agg #[])) (m := m) (k := l[k]) (v := ()) rfl rfl rfl rfl Try.underlying145 Try.underlying3 ?_
    refine o_nil ?_
    refine q_block_normal (q_then ?_)
    refine c_region ?_
    refine o_p (p_addb rfl rfl (by omega)) ?_
    refine o_mv rfl rfl ?_
    refine o_nil ?_
    refine q_round hK2 (k + 1, (AL.set m (l[k]) ())) ?_ ?_ ?_ ?_
    ·clear hK2
     exact ⟨by omega, Lru.keys_next (by omega) hI2 (by assumption) (fun hm => by have := (hI3 _).2 hm; simp_all), hI3.next (by omega) _⟩
    ·(try dsimp only); omega
    ·exact sr (sr (sr (sr (Sub.nil _))))
    ·exact pk [1, 2]
 ·simp only [decide_eq_false_iff_not, Int.not_lt] at hc3
  refine c_exit ?_
  refine q_then_exit (q_then_exit (q_block_exit (q_then ?_)))
  refine c_seq (c_region ?_)
  refine o_as rfl rfl ?_
  refine o_nil (q_then (c_ret ?_))
  have hr0 : (0 : Int) = (Lru.keys l) := by
   first | exact Lru.keys_bad (by omega) hI2 (by assumption) | exact Lru.keys_twice (by omega) hI2 (by assumption) ((hI3 _).1 (by assumption)) | exact Lru.keys_end (by omega) hI2
  refine q_end0 (v := Vi 0) (rt1 rfl (r_tmp rfl)) (i := 1) rfl ?_
  exact (by have hcc := congrArg (fun (y0 : Int) => (.int .i64 y0 : Value)) hr0; exact hcc)

set_option maxHeartbeats 8000000 in
set_option maxRecDepth 100000 in
theorem lcheck_ok (c : DCache) (ac_0 : Option Addr) (cc_0 : Nat) : Fn0 Try.prog 82 [.agg #[Vi c.room, .slice ac_0 c.keys.length cc_0]] (fun w => Rd tInt w ac_0 cc_0 c.keys) (Vi (Lru.check c)) := by
 refine fn0 (nt := 18) (F0 := [(0, .agg #[Vi c.room, .slice ac_0 c.keys.length cc_0])]) Try.func82 rfl Try.ntmps82 rfl rfl (fun w0 hpre => ?_)
 have hc_0 := hpre
 have hlhc_0 := hc_0.2.1
 refine c_seq (c_region ?_)
 refine o_box (v := .agg #[Vi c.room, .slice ac_0 c.keys.length cc_0]) rfl rfl (fun B1 => ?_)
 refine o_as rfl rfl ?_
 refine o_nil (q_then (c_seq (c_block (c_seq (c_region ?_)))))
 refine o_p (p_fieldAddr (j' := 0) rfl fo74_0 rfl) ?_
 refine o_p (p_load (i := 0) (v := Vi c.room) rfl rfl sh3 rfl) ?_
 refine o_call0 (v := .bool (Lru.okRoom c.room)) rfl (room_ok c.room) hf105 (fun _ _ => trivial) rfl ?_
 refine o_p (p_not (b := (Lru.okRoom c.room)) rfl) ?_
 refine o_as rfl rfl ?_
 refine o_nil (q_then ?_)
 refine c_cond rfl (fun hc2 => ?_) (fun hc2 => ?_)
 ·simp only [Bool.not_eq_true'] at hc2
  refine c_seq (c_region ?_)
  refine o_as rfl rfl ?_
  refine o_nil (q_then (c_ret ?_))
  refine q_block_ret (q_then_ret ?_)
  have hr0 : (3 : Int) = (Lru.check c) := by
   first | (rw [Lru.check, if_pos (by assumption)]; done) | (rw [Lru.check, if_neg (by simp_all), if_pos (by assumption)]; done) | (rw [Lru.check, if_neg (by simp_all), if_neg (by omega)]; done)
  refine q_end0 (v := Vi 3) (rt1 rfl (r_tmp rfl)) (i := 1) rfl ?_
  exact (by have hcc := congrArg (fun (y0 : Int) => (.int .i64 y0 : Value)) hr0; exact hcc)
 ·simp only [Bool.not_eq_false'] at hc2
  refine c_seq (c_region ?_)
  refine o_p (p_fieldAddr (j' := 1) rfl fo74_1 rfl) ?_
  refine o_p (p_load (i := 0) (v := .slice ac_0 c.keys.length cc_0) rfl rfl sh45 rfl) ?_
  refine o_p (p_len_slice rfl rfl Try.underlying45) ?_
  refine o_p (p_fieldAddr (j' := 0) rfl fo74_0 rfl) ?_
  refine o_p (p_load (i := 0) (v := Vi c.room) rfl rfl sh3 rfl) ?_
  refine o_p (p_gt rfl rfl) ?_
  refine o_as rfl rfl ?_
  refine o_nil (q_then ?_)
  refine c_cond rfl (fun hc3 => ?_) (fun hc3 => ?_)
  ·simp only [decide_eq_true_eq] at hc3
   refine c_seq (c_region ?_)
   refine o_as rfl rfl ?_
   refine o_nil (q_then (c_ret ?_))
   refine q_block_ret (q_then_ret ?_)
   have hr0 : (2 : Int) = (Lru.check c) := by
    first | (rw [Lru.check, if_pos (by assumption)]; done) | (rw [Lru.check, if_neg (by simp_all), if_pos (by assumption)]; done) | (rw [Lru.check, if_neg (by simp_all), if_neg (by omega)]; done)
   refine q_end0 (v := Vi 2) (rt1 rfl (r_tmp rfl)) (i := 1) rfl ?_
   exact (by have hcc := congrArg (fun (y0 : Int) => (.int .i64 y0 : Value)) hr0; exact hcc)
  ·simp only [decide_eq_false_iff_not, Int.not_lt] at hc3
   refine c_skip ?_
   refine q_block_normal (q_then ?_)
   refine c_seq (c_region ?_)
   refine o_p (p_fieldAddr (j' := 1) rfl fo74_1 rfl) ?_
   refine o_p (p_load (i := 0) (v := .slice ac_0 c.keys.length cc_0) rfl rfl sh45 rfl) ?_
   refine o_call0 (v := Vi (Lru.keys c.keys)) rfl (keys_ok c.keys ac_0 cc_0) hf106 (fun w hw => (rd_base (i := 1) rfl hc_0) w hw) rfl ?_
   refine o_as rfl rfl ?_
   refine o_nil (q_then (c_ret ?_))
   have hr0 : ((Lru.keys c.keys) : Int) = (Lru.check c) := by
    first | (rw [Lru.check, if_pos (by assumption)]; done) | (rw [Lru.check, if_neg (by simp_all), if_pos (by assumption)]; done) | (rw [Lru.check, if_neg (by simp_all), if_neg (by omega)]; done)
   refine q_end0 (v := Vi (Lru.keys c.keys)) (rt1 rfl (r_tmp rfl)) (i := 1) rfl ?_
   exact (by have hcc := congrArg (fun (y0 : Int) => (.int .i64 y0 : Value)) hr0; exact hcc)

set_option maxHeartbeats 8000000 in
set_option maxRecDepth 100000 in
theorem lowned_ok (c : DCache) (ac_0 : Option Addr) (cc_0 : Nat) (hy1 : c.keys.length ≤ 1000000) : FnX Try.prog 83 [.agg #[Vi c.room, .slice ac_0 c.keys.length cc_0]] [] (fun w => SlR tInt (outer w []).S w ac_0 cc_0 c.keys) (Nat × Option Addr × Nat × (Nat → Prop)) (fun p => .pointer (some ⟨p.1, 0, none⟩)) (fun p => [box p.1 [Vi c.room, .slice p.2.1 c.keys.length p.2.2.1] 122, own tInt p.2.2.2 p.2.1 p.2.2.1 c.keys]) := by
 refine fnX (nt := 11) (F0 := [(0, .agg #[Vi c.room, .slice ac_0 c.keys.length cc_0])]) Try.func83 rfl Try.ntmps83 rfl rfl (fun w0 hpre => ?_)
 have hc_0 := hpre
 have hlhc_0 := hc_0.2.1
 refine c_seq (c_region ?_)
 refine o_box (v := .agg #[Vi c.room, .slice ac_0 c.keys.length cc_0]) rfl rfl (fun B1 => ?_)
 refine o_as rfl rfl ?_
 refine o_nil (q_then (c_seq ?_))
 refine c_held hmix [box B1 [Vi c.room, .slice ac_0 c.keys.length cc_0] 74, outer w0 []] rfl rfl ?_
 refine h_t0 (i := 0) (ls := #[T1,F0,F0,F0,F0,F0,F0,F0,F0]) rfl (p_fieldAddr (j' := 0) rfl fo74_0 rfl) ?_
 refine h_t0 (i := 1) (ls := #[T1,T1,F0,F0,F0,F0,F0,F0,F0]) rfl (p_load (i := 0) (v := Vi c.room) rfl rfl sh3 rfl) ?_
 refine h_t0 (i := 2) (ls := #[T1,T1,T1,F0,F0,F0,F0,F0,F0]) rfl (p_fieldAddr (j' := 1) rfl fo74_1 rfl) ?_
 refine h_t0 (i := 3) (ls := #[T1,T1,T1,T1,F0,F0,F0,F0,F0]) rfl (p_load (i := 0) (v := .slice ac_0 c.keys.length cc_0) rfl rfl sh45 rfl) ?_
 refine h_one (i := 4) (ls := #[T1,T1,T1,T1,T1,F0,F0,F0,F0]) (by kernel_rfl) rfl rfl ?_
 refine o_callM rfl (clone_Int_ok c.keys ac_0 cc_0 (by first | assumption | omega | (simp only [List.length_append, List.length_take, List.length_drop, List.length_cons, List.length_nil]; omega))) hf107 (fun w hw => (rd_outer (i := 1) rfl hc_0) w hw) rfl (fun _ _ _ _ ha hA => SlO.agree ha hA) ?_
 rintro ⟨a2_4, c2_4⟩ S2_4
 refine o_know (fun w hw => own_len (i := 0) (T := tInt) hw rfl) (fun hlr2_4 => ?_)
 refine o_nil ?_
 refine h_next (dp (lz (lj (lj (ln))))) ?_
 refine h_tk (i := 5) (ls := #[T1,T1,T1,T1,T1,T1,F0,F0,F0]) rfl (p_build (cells := [Vi c.room, .slice a2_4 c.keys.length c2_4]) fp74 ze74 rfl rfl) (dp (lz (lj (lj (ln))))) ?_
 refine h_tk (i := 6) (ls := #[T1,T1,T1,T1,T1,T1,T1,F0,F0]) rfl (p_build (cells := [Vi c.room, .slice a2_4 c.keys.length c2_4]) fp122 ze122 rfl rfl) (dp (lz (lj (lj (ln))))) ?_
 refine h_one (i := 7) (ls := #[T1,T1,T1,T1,T1,T1,T1,T1,F0]) (by kernel_rfl) rfl rfl ?_
 refine o_box (v := .agg #[Vi c.room, .slice a2_4 c.keys.length c2_4]) rfl rfl (fun B2_7 => ?_)
 refine o_nil ?_
 refine h_next (dp (lz (lz (lj (lj (ln)))))) ?_
 refine h_tk (i := 8) (ls := #[T1,T1,T1,T1,T1,T1,T1,T1,T1]) rfl (p_assign rfl) (dp (lz (lz (lj (lj (ln)))))) ?_
 refine h_done (by kernel_rfl) ?_
 refine q_then (c_ret ?_)
 refine q_endX (p := (B2_7, a2_4, c2_4, S2_4)) (rt1 rfl (r_tmp rfl)) ?_ (fun w hw => ?_)
 ·exact rfl
 ·have h2 := hw.pick (H' := [outer w0 [], box B2_7 [Vi c.room, .slice a2_4 c.keys.length c2_4] 122, own tInt S2_4 a2_4 c2_4 c.keys]) [3, 0, 1] (by decide) rfl
  exact Eq.mp (congrArg (fun z => HeapIs w0 ((outer w0 []) :: z) w) (rfl)) h2

set_option maxHeartbeats 8000000 in
set_option maxRecDepth 100000 in
theorem ltouch_ok (c : DCache) (Bc : Nat) (ac_0 : Option Addr) (cc_0 : Nat) (Sc_0 : Nat → Prop) (key : Int) (hy1 : Lru.Ok c) : FnX Try.prog 84 [.pointer (some ⟨Bc, 0, none⟩), Vi key] [box Bc [Vi c.room, .slice ac_0 c.keys.length cc_0] 122, own tInt Sc_0 ac_0 cc_0 c.keys] (fun _ => True) (Option Addr × Nat × (Nat → Prop)) (fun p => .tuple #[.bool ((Lru.touch c key).2.1), Vi ((Lru.touch c key).2.2)]) (fun p => [box Bc [Vi (((Lru.touch c key).1).room), .slice p.1 (((Lru.touch c key).1).keys).length p.2.1] 122, own tInt p.2.2 p.1 p.2.1 (((Lru.touch c key).1).keys)]) := by
 refine fnX (nt := 88) (F0 := [(0, .pointer (some ⟨Bc, 0, none⟩)), (1, Vi key)]) Try.func84 rfl Try.ntmps84 rfl rfl (fun w0 hpre => ?_)
 refine c_know (fun w hw => own_len (i := 2) (T := tInt) hw rfl) (fun hlown_c_0 => ?_)
 obtain ⟨hcown_c_0, hlown_c_0⟩ := hlown_c_0
 have hroom := hy1.room
 have hlen := hy1.len
 refine c_seq (c_region ?_)
 refine o_as rfl rfl ?_
 refine o_as rfl rfl ?_
 refine o_nil (q_then (c_seq (c_region ?_)))
 refine o_mv rfl rfl ?_
 refine o_p (p_nilCheck rfl) ?_
 refine o_p (p_fieldAddr (j' := 0) rfl fo122_0 rfl) ?_
 refine o_p (p_fieldAddr (j' := 1) rfl fo74_1 rfl) ?_
 refine o_p (p_load (i := 1) (v := .slice ac_0 c.keys.length cc_0) rfl rfl sh45 rfl) ?_
 refine o_mv rfl rfl ?_
 refine o_call0 (v := Vi (idxF (fun x : Int => (x == key)) c.keys)) rfl (index_int_ok c.keys ac_0 cc_0 key) hf108 (fun w hw => (rd_own (i := 2) rfl) w hw) rfl ?_
 refine o_as rfl rfl ?_
 refine o_nil (q_then (c_seq (c_region ?_)))
 refine o_as rfl rfl ?_
 refine o_nil (q_then (c_seq (c_block (c_seq (c_region ?_)))))
 refine o_mv rfl rfl ?_
 refine o_p (p_ge rfl rfl) ?_
 refine o_as rfl rfl ?_
 refine o_nil (q_then ?_)
 refine c_cond rfl (fun hc1 => ?_) (fun hc1 => ?_)
 ·simp only [decide_eq_true_eq] at hc1
  have hix := idxF_lt (fun x : Int => (x == key)) c.keys
  refine c_region ?_
  refine o_mv rfl rfl ?_
  refine o_mv rfl rfl ?_
  refine o_p (p_nilCheck rfl) ?_
  refine o_p (p_fieldAddr (j' := 0) rfl fo122_0 rfl) ?_
  refine o_p (p_fieldAddr (j' := 1) rfl fo74_1 rfl) ?_
  refine o_p (p_load (i := 1) (v := .slice ac_0 c.keys.length cc_0) rfl rfl sh45 rfl) ?_
  refine o_mv rfl rfl ?_
  refine o_mv rfl rfl ?_
  refine o_p (p_addb rfl rfl (by omega)) ?_
  refine o_pick (H' := [own tInt Sc_0 ac_0 cc_0 c.keys, outer w0 [box Bc [Vi c.room, .slice ac_0 c.keys.length cc_0] 122, own tInt Sc_0 ac_0 cc_0 c.keys], box Bc [Vi c.room, .slice ac_0 c.keys.length cc_0] 122]) [2, 0, 1] (by decide) rfl ?_
  refine o_callX (pre := [own tInt Sc_0 ac_0 cc_0 c.keys]) (R := [outer w0 [box Bc [Vi c.room, .slice ac_0 c.keys.length cc_0] 122, own tInt Sc_0 ac_0 cc_0 c.keys], box Bc [Vi c.room, .slice ac_0 c.keys.length cc_0] 122]) rfl (delete_Int_ok c.keys ac_0 cc_0 Sc_0 (idxF (fun x : Int => (x == key)) c.keys) ((idxF (fun x : Int => (x == key)) c.keys) + 1) (by omega)) hf109 rfl (fun _ _ => trivial) rfl ?_
  rintro ⟨a2, c3, S4⟩
  refine o_asH (H' := [own tInt S4 a2 c3 (c.keys.take (idxF (fun x : Int => (x == key)) c.keys).toNat ++ c.keys.drop ((idxF (fun x : Int => (x == key)) c.keys) + 1).toNat), outer w0 [box Bc [Vi c.room, .slice ac_0 c.keys.length cc_0] 122, own tInt Sc_0 ac_0 cc_0 c.keys], box Bc [Vi c.room, .slice ac_0 c.keys.length cc_0] 122]) rfl ?_
  refine o_p (p_nilCheck rfl) ?_
  refine o_p (p_fieldAddr (j' := 0) rfl fo122_0 rfl) ?_
  refine o_p (p_fieldAddr (j' := 1) rfl fo74_1 rfl) ?_
  refine o_store (i := 2) (v := .slice a2 (c.keys.take (idxF (fun x : Int => (x == key)) c.keys).toNat ++ c.keys.drop ((idxF (fun x : Int => (x == key)) c.keys) + 1).toNat).length c3) (cs' := [Vi c.room, .slice a2 (c.keys.take (idxF (fun x : Int => (x == key)) c.keys).toNat ++ c.keys.drop ((idxF (fun x : Int => (x == key)) c.keys) + 1).toNat).length c3]) rfl rfl rfl sz45 rfl rfl rfl ?_
  refine o_nil ?_
  refine q_block_normal (q_then ?_)
  refine c_seq (c_region ?_)
  refine o_mv rfl rfl ?_
  refine o_mv rfl rfl ?_
  refine o_p (p_nilCheck rfl) ?_
  refine o_p (p_fieldAddr (j' := 0) rfl fo122_0 rfl) ?_
  refine o_p (p_fieldAddr (j' := 1) rfl fo74_1 rfl) ?_
  refine o_p (p_load (i := 2) (v := .slice a2 (c.keys.take (idxF (fun x : Int => (x == key)) c.keys).toNat ++ c.keys.drop ((idxF (fun x : Int => (x == key)) c.keys) + 1).toNat).length c3) rfl rfl sh45 rfl) ?_
  refine o_mv rfl rfl ?_
  refine o_buildSlice (m := 1) (T := tInt) (L := [key]) (vs := [Vi key]) rfl rfl rfl rfl Try.underlying45 sz3 (by decide) ze3 rfl (by decide) rfl (fun S6 a7 => ?_)
  refine o_pick (H' := [own tInt S4 a2 c3 (c.keys.take (idxF (fun x : Int => (x == key)) c.keys).toNat ++ c.keys.drop ((idxF (fun x : Int => (x == key)) c.keys) + 1).toNat), own tInt S6 a7 ([key].length) ([key]), outer w0 [box Bc [Vi c.room, .slice ac_0 c.keys.length cc_0] 122, own tInt Sc_0 ac_0 cc_0 c.keys], box Bc [Vi c.room, .slice a2 (c.keys.take (idxF (fun x : Int => (x == key)) c.keys).toNat ++ c.keys.drop ((idxF (fun x : Int => (x == key)) c.keys) + 1).toNat).length c3] 122]) [1, 0, 2, 3] (by decide) rfl ?_
  refine o_callX (pre := [own tInt S4 a2 c3 (c.keys.take (idxF (fun x : Int => (x == key)) c.keys).toNat ++ c.keys.drop ((idxF (fun x : Int => (x == key)) c.keys) + 1).toNat), own tInt S6 a7 ([key].length) ([key])]) (R := [outer w0 [box Bc [Vi c.room, .slice ac_0 c.keys.length cc_0] 122, own tInt Sc_0 ac_0 cc_0 c.keys], box Bc [Vi c.room, .slice a2 (c.keys.take (idxF (fun x : Int => (x == key)) c.keys).toNat ++ c.keys.drop ((idxF (fun x : Int => (x == key)) c.keys) + 1).toNat).length c3] 122]) rfl (insert_Int_ok (c.keys.take (idxF (fun x : Int => (x == key)) c.keys).toNat ++ c.keys.drop ((idxF (fun x : Int => (x == key)) c.keys) + 1).toNat) a2 c3 S4 (0 : Int) ([key]) a7 ([key].length) S6 (by (try simp only [List.length_cons, List.length_nil, List.length_append, List.length_take, List.length_drop, and_true]); omega)) hf110 rfl (fun _ _ => trivial) rfl ?_
  rintro ⟨a9, c10, S11⟩
  refine o_asH (H' := [own tInt S11 a9 c10 ((c.keys.take (idxF (fun x : Int => (x == key)) c.keys).toNat ++ c.keys.drop ((idxF (fun x : Int => (x == key)) c.keys) + 1).toNat).take (0 : Int).toNat ++ ([key]) ++ (c.keys.take (idxF (fun x : Int => (x == key)) c.keys).toNat ++ c.keys.drop ((idxF (fun x : Int => (x == key)) c.keys) + 1).toNat).drop (0 : Int).toNat), outer w0 [box Bc [Vi c.room, .slice ac_0 c.keys.length cc_0] 122, own tInt Sc_0 ac_0 cc_0 c.keys], box Bc [Vi c.room, .slice a2 (c.keys.take (idxF (fun x : Int => (x == key)) c.keys).toNat ++ c.keys.drop ((idxF (fun x : Int => (x == key)) c.keys) + 1).toNat).length c3] 122]) rfl ?_
  refine o_p (p_nilCheck rfl) ?_
  refine o_p (p_fieldAddr (j' := 0) rfl fo122_0 rfl) ?_
  refine o_p (p_fieldAddr (j' := 1) rfl fo74_1 rfl) ?_
  refine o_store (i := 2) (v := .slice a9 ((c.keys.take (idxF (fun x : Int => (x == key)) c.keys).toNat ++ c.keys.drop ((idxF (fun x : Int => (x == key)) c.keys) + 1).toNat).take (0 : Int).toNat ++ ([key]) ++ (c.keys.take (idxF (fun x : Int => (x == key)) c.keys).toNat ++ c.keys.drop ((idxF (fun x : Int => (x == key)) c.keys) + 1).toNat).drop (0 : Int).toNat).length c10) (cs' := [Vi c.room, .slice a9 ((c.keys.take (idxF (fun x : Int => (x == key)) c.keys).toNat ++ c.keys.drop ((idxF (fun x : Int => (x == key)) c.keys) + 1).toNat).take (0 : Int).toNat ++ ([key]) ++ (c.keys.take (idxF (fun x : Int => (x == key)) c.keys).toNat ++ c.keys.drop ((idxF (fun x : Int => (x == key)) c.keys) + 1).toNat).drop (0 : Int).toNat).length c10]) rfl rfl rfl sz45 rfl rfl rfl ?_
  refine o_nil (q_then (c_seq (c_region ?_)))
  refine o_mv rfl rfl ?_
  refine o_p (p_ge rfl rfl) ?_
  refine o_mv rfl rfl ?_
  refine o_as rfl rfl ?_
  refine o_as rfl rfl ?_
  refine o_nil (q_then (c_ret ?_))
  first
   | have ht := Lru.touch_hit (c := c) (key := key) hy1 (by assumption)
   | have ht := Lru.touch_full (c := c) (key := key) hy1 (by assumption) (by assumption) (by omega)
   | have ht := Lru.touch_add (c := c) (key := key) hy1 (by assumption) (by assumption)
  have hr0 : (c.room : Int) = ((Lru.touch c key).1).room := by
   first | (rw [ht]; done) | (rw [ht]; rfl) | (rw [ht]; exact (Lru.ins0 _ _).trans (by rw [Lru.nat1 (by omega)])) | (rw [ht]; exact decide_eq_true (by omega)) | (rw [ht]; exact decide_eq_false (by omega))
  have hr1 : (((c.keys.take (idxF (fun x : Int => (x == key)) c.keys).toNat ++ c.keys.drop ((idxF (fun x : Int => (x == key)) c.keys) + 1).toNat).take (0 : Int).toNat ++ ([key]) ++ (c.keys.take (idxF (fun x : Int => (x == key)) c.keys).toNat ++ c.keys.drop ((idxF (fun x : Int => (x == key)) c.keys) + 1).toNat).drop (0 : Int).toNat) : List Int) = ((Lru.touch c key).1).keys := by
   first | (rw [ht]; done) | (rw [ht]; rfl) | (rw [ht]; exact (Lru.ins0 _ _).trans (by rw [Lru.nat1 (by omega)])) | (rw [ht]; exact decide_eq_true (by omega)) | (rw [ht]; exact decide_eq_false (by omega))
  have hr2 : (decide (0 ≤ (idxF (fun x : Int => (x == key)) c.keys)) : Bool) = ((Lru.touch c key).2.1) := by
   first | (rw [ht]; done) | (rw [ht]; rfl) | (rw [ht]; exact (Lru.ins0 _ _).trans (by rw [Lru.nat1 (by omega)])) | (rw [ht]; exact decide_eq_true (by omega)) | (rw [ht]; exact decide_eq_false (by omega))
  have hr3 : ((-1) : Int) = ((Lru.touch c key).2.2) := by
   first | (rw [ht]; done) | (rw [ht]; rfl) | (rw [ht]; exact (Lru.ins0 _ _).trans (by rw [Lru.nat1 (by omega)])) | (rw [ht]; exact decide_eq_true (by omega)) | (rw [ht]; exact decide_eq_false (by omega))
  refine q_endX (p := (a9, c10, S11)) (rt2 rfl (r_tmp rfl) (r_tmp rfl)) ?_ (fun w hw => ?_)
  ·exact (by have hcc := congr (congr (congr (congrArg (fun (y0 : Int) (y1 : List Int) (y2 : Bool) (y3 : Int) => (.tuple #[.bool y2, .int .i64 y3] : Value)) hr0) hr1) hr2) hr3; exact hcc)
  ·have h2 := hw.pick (H' := [outer w0 [box Bc [Vi c.room, .slice ac_0 c.keys.length cc_0] 122, own tInt Sc_0 ac_0 cc_0 c.keys], box Bc [Vi c.room, .slice a9 ((c.keys.take (idxF (fun x : Int => (x == key)) c.keys).toNat ++ c.keys.drop ((idxF (fun x : Int => (x == key)) c.keys) + 1).toNat).take (0 : Int).toNat ++ ([key]) ++ (c.keys.take (idxF (fun x : Int => (x == key)) c.keys).toNat ++ c.keys.drop ((idxF (fun x : Int => (x == key)) c.keys) + 1).toNat).drop (0 : Int).toNat).length c10] 122, own tInt S11 a9 c10 ((c.keys.take (idxF (fun x : Int => (x == key)) c.keys).toNat ++ c.keys.drop ((idxF (fun x : Int => (x == key)) c.keys) + 1).toNat).take (0 : Int).toNat ++ ([key]) ++ (c.keys.take (idxF (fun x : Int => (x == key)) c.keys).toNat ++ c.keys.drop ((idxF (fun x : Int => (x == key)) c.keys) + 1).toNat).drop (0 : Int).toNat)]) [1, 2, 0] (by decide) rfl
   exact Eq.mp (congrArg (fun z => HeapIs w0 ((outer w0 [box Bc [Vi c.room, .slice ac_0 c.keys.length cc_0] 122, own tInt Sc_0 ac_0 cc_0 c.keys]) :: z) w) ((by have hcc := congr (congr (congr (congrArg (fun (y0 : Int) (y1 : List Int) (y2 : Bool) (y3 : Int) => ([box Bc [.int .i64 y0, .slice a9 y1.length c10] 122, own tInt S11 a9 c10 y1] : List Ent)) hr0) hr1) hr2) hr3; exact hcc))) h2
 ·simp only [decide_eq_false_iff_not, Int.not_le] at hc1
  have hix := idxF_lt (fun x : Int => (x == key)) c.keys
  refine c_seq ?_
  refine c_draw hmix (by kernel_rfl) ?_
  refine w_mv rfl rfl ?_
  refine w_p (p_nilCheck rfl) ?_
  refine w_p (p_fieldAddr (j' := 0) rfl fo122_0 rfl) ?_
  refine w_p (p_fieldAddr (j' := 1) rfl fo74_1 rfl) ?_
  refine w_p (p_load (i := 1) (v := .slice ac_0 c.keys.length cc_0) rfl rfl sh45 rfl) ?_
  refine w_p (p_len_slice rfl rfl Try.underlying45) ?_
  refine w_mv rfl rfl ?_
  refine w_p (p_nilCheck rfl) ?_
  refine w_p (p_fieldAddr (j' := 0) rfl fo122_0 rfl) ?_
  refine w_p (p_fieldAddr (j' := 0) rfl fo74_0 rfl) ?_
  refine w_p (p_load (i := 1) (v := Vi c.room) rfl rfl sh3 rfl) ?_
  refine w_p (p_eq rfl rfl) ?_
  refine w_p (p_assign rfl) ?_
  refine w_nil (q_then ?_)
  refine c_cond rfl (fun hc13 => ?_) (fun hc13 => ?_)
  ·simp only [beq_iff_eq] at hc13
   refine c_seq ?_
   refine c_draw hmix (by kernel_rfl) ?_
   refine w_mv rfl rfl ?_
   refine w_p (p_nilCheck rfl) ?_
   refine w_p (p_fieldAddr (j' := 0) rfl fo122_0 rfl) ?_
   refine w_p (p_fieldAddr (j' := 1) rfl fo74_1 rfl) ?_
   refine w_p (p_load (i := 1) (v := .slice ac_0 c.keys.length cc_0) rfl rfl sh45 rfl) ?_
   refine w_mv rfl rfl ?_
   refine w_p (p_nilCheck rfl) ?_
   refine w_p (p_fieldAddr (j' := 0) rfl fo122_0 rfl) ?_
   refine w_p (p_fieldAddr (j' := 0) rfl fo74_0 rfl) ?_
   refine w_p (p_load (i := 1) (v := Vi c.room) rfl rfl sh3 rfl) ?_
   refine w_p (p_subb rfl rfl (by omega)) ?_
   refine w_p (p_indexAddr (L := c.keys) (T := tInt) (i := (c.room - 1)) rfl rfl (rd_own (i := 2) rfl) Try.underlying45 sz3 (by omega) (by omega)) ?_
   refine w_p (p_loadE1 (i := (c.room - 1).toNat) (T := tInt) (L := c.keys) (v := Vi (c.keys[(c.room - 1).toNat])) rfl (rd_own (i := 2) rfl) (by first | assumption | omega) sh3 rfl) ?_
   refine w_p (p_assign rfl) ?_
   refine w_nil (q_then ?_)
   refine c_cut (G := Unit) (fun _ => [(0, .pointer (some ⟨Bc, 0, none⟩)), (1, Vi key), (6, Vi (idxF (fun x : Int => (x == key)) c.keys)), (7, Vi (c.keys[(c.room - 1).toNat]))]) (fun _ => [outer w0 [box Bc [Vi c.room, .slice ac_0 c.keys.length cc_0] 122, own tInt Sc_0 ac_0 cc_0 c.keys], box Bc [Vi c.room, .slice ac_0 (c.keys.take ((c.room - 1).toNat)).length cc_0] 122, own tInt Sc_0 ac_0 cc_0 (c.keys.take ((c.room - 1).toNat))]) (fun K hK15 => ?_) ?_
   ·refine c_held hmix [outer w0 [box Bc [Vi c.room, .slice ac_0 c.keys.length cc_0] 122, own tInt Sc_0 ac_0 cc_0 c.keys]] rfl rfl ?_
    refine h_tk (i := 0) (ls := #[T1,F0,F0,F0,F0,F0,F0,F0,F0,F0,F0,F0,F0,F0,F0,F0,F0]) rfl (p_move rfl) (dp (lj (lz (lz (ln))))) ?_
    refine h_tk (i := 1) (ls := #[T1,T1,F0,F0,F0,F0,F0,F0,F0,F0,F0,F0,F0,F0,F0,F0,F0]) rfl (p_move rfl) (dp (lj (lz (lz (ln))))) ?_
    refine h_tk (i := 2) (ls := #[T1,T1,T1,F0,F0,F0,F0,F0,F0,F0,F0,F0,F0,F0,F0,F0,F0]) rfl (p_nilCheck rfl) (dp (lj (lz (lz (ln))))) ?_
    refine h_tk (i := 3) (ls := #[T1,T1,T1,T1,F0,F0,F0,F0,F0,F0,F0,F0,F0,F0,F0,F0,F0]) rfl (p_fieldAddr (j' := 0) rfl fo122_0 rfl) (dp (lj (lz (lz (ln))))) ?_
    refine h_tk (i := 4) (ls := #[T1,T1,T1,T1,T1,F0,F0,F0,F0,F0,F0,F0,F0,F0,F0,F0,F0]) rfl (p_fieldAddr (j' := 1) rfl fo74_1 rfl) (dp (lj (lz (lz (ln))))) ?_
    refine h_tk (i := 6) (ls := #[T1,T1,T1,T1,T1,F0,T1,F0,F0,F0,F0,F0,F0,F0,F0,F0,F0]) rfl (p_move rfl) (dp (lj (lz (lz (ln))))) ?_
    refine h_tk (i := 7) (ls := #[T1,T1,T1,T1,T1,F0,T1,T1,F0,F0,F0,F0,F0,F0,F0,F0,F0]) rfl (p_nilCheck rfl) (dp (lj (lz (lz (ln))))) ?_
    refine h_tk (i := 8) (ls := #[T1,T1,T1,T1,T1,F0,T1,T1,T1,F0,F0,F0,F0,F0,F0,F0,F0]) rfl (p_fieldAddr (j' := 0) rfl fo122_0 rfl) (dp (lj (lz (lz (ln))))) ?_
    refine h_tk (i := 9) (ls := #[T1,T1,T1,T1,T1,F0,T1,T1,T1,T1,F0,F0,F0,F0,F0,F0,F0]) rfl (p_fieldAddr (j' := 0) rfl fo74_0 rfl) (dp (lj (lz (lz (ln))))) ?_
    refine h_two (i := 5) (j := 10) (ls := #[T1,T1,T1,T1,T1,T1,T1,T1,T1,T1,F0,F0,F0,F0,F0,F0,F0]) (ls' := #[T1,T1,T1,T1,T1,F0,T1,T1,T1,T1,T1,F0,F0,F0,F0,F0,F0]) (by kernel_rfl) rfl rfl rfl rfl ?_ ?_
    ·refine o_p (p_load (i := 1) (v := .slice ac_0 c.keys.length cc_0) rfl rfl sh45 rfl) ?_
     refine o_nil ?_
     refine h_next (dp (lj (lz (lz (ln))))) ?_
     refine h_one (i := 10) (ls := #[T1,T1,T1,T1,T1,T1,T1,T1,T1,T1,T1,F0,F0,F0,F0,F0,F0]) (by kernel_rfl) rfl rfl ?_
     refine o_p (p_load (i := 1) (v := Vi c.room) rfl rfl sh3 rfl) ?_
     refine o_nil ?_
     refine h_next (dp (lj (lz (lz (ln))))) ?_
     refine h_tk (i := 11) (ls := #[T1,T1,T1,T1,T1,T1,T1,T1,T1,T1,T1,T1,F0,F0,F0,F0,F0]) rfl (p_subb rfl rfl (by omega)) (dp (lj (lz (lz (ln))))) ?_
     refine h_one (i := 12) (ls := #[T1,T1,T1,T1,T1,T1,T1,T1,T1,T1,T1,T1,T1,F0,F0,F0,F0]) (by kernel_rfl) rfl rfl ?_
     refine o_p (p_sliceH (L := c.keys) (T := tInt) (h := (c.room - 1)) rfl rfl Try.underlying45 sz3 (by omega) (by omega) (rd_own (i := 2) rfl)) ?_
     refine o_nil ?_
     refine h_next (dp (lj (lz (lz (ln))))) ?_
     refine h_tk (i := 13) (ls := #[T1,T1,T1,T1,T1,T1,T1,T1,T1,T1,T1,T1,T1,T1,F0,F0,F0]) rfl (p_nilCheck rfl) (dp (lj (lz (lz (ln))))) ?_
     refine h_tk (i := 14) (ls := #[T1,T1,T1,T1,T1,T1,T1,T1,T1,T1,T1,T1,T1,T1,T1,F0,F0]) rfl (p_fieldAddr (j' := 0) rfl fo122_0 rfl) (dp (lj (lz (lz (ln))))) ?_
     refine h_tk (i := 15) (ls := #[T1,T1,T1,T1,T1,T1,T1,T1,T1,T1,T1,T1,T1,T1,T1,T1,F0]) rfl (p_fieldAddr (j' := 1) rfl fo74_1 rfl) (dp (lj (lz (lz (ln))))) ?_
     refine h_one (i := 16) (ls := #[T1,T1,T1,T1,T1,T1,T1,T1,T1,T1,T1,T1,T1,T1,T1,T1,T1]) (by kernel_rfl) rfl rfl ?_
     refine o_shrinkC (i := 2) (hi := (c.room - 1).toNat) (T := tInt) rfl (by omega) ?_
     refine o_store (i := 1) (v := .slice ac_0 (c.keys.take ((c.room - 1).toNat)).length cc_0) (cs' := [Vi c.room, .slice ac_0 (c.keys.take ((c.room - 1).toNat)).length cc_0]) rfl rfl rfl sz45 rfl rfl rfl ?_
     refine o_nil ?_
     refine h_next (dp (lj (lz (lz (ln))))) ?_
     refine h_done (by kernel_rfl) ?_
     refine q_kont hK15 () (sr (sr (sr (sr (Sub.nil _))))) (pk [0, 1, 2])
    ·refine o_p (p_load (i := 1) (v := Vi c.room) rfl rfl sh3 rfl) ?_
     refine o_nil ?_
     refine h_next (dp (lj (lz (lz (ln))))) ?_
     refine h_tk (i := 11) (ls := #[T1,T1,T1,T1,T1,F0,T1,T1,T1,T1,T1,T1,F0,F0,F0,F0,F0]) rfl (p_subb rfl rfl (by omega)) (dp (lj (lz (lz (ln))))) ?_
     refine h_one (i := 5) (ls := #[T1,T1,T1,T1,T1,T1,T1,T1,T1,T1,T1,T1,F0,F0,F0,F0,F0]) (by kernel_rfl) rfl rfl ?_
     refine o_p (p_load (i := 1) (v := .slice ac_0 c.keys.length cc_0) rfl rfl sh45 rfl) ?_
     refine o_nil ?_
     refine h_next (dp (lj (lz (lz (ln))))) ?_
     refine h_one (i := 12) (ls := #[T1,T1,T1,T1,T1,T1,T1,T1,T1,T1,T1,T1,T1,F0,F0,F0,F0]) (by kernel_rfl) rfl rfl ?_
     refine o_p (p_sliceH (L := c.keys) (T := tInt) (h := (c.room - 1)) rfl rfl Try.underlying45 sz3 (by omega) (by omega) (rd_own (i := 2) rfl)) ?_
     refine o_nil ?_
     refine h_next (dp (lj (lz (lz (ln))))) ?_
     refine h_tk (i := 13) (ls := #[T1,T1,T1,T1,T1,T1,T1,T1,T1,T1,T1,T1,T1,T1,F0,F0,F0]) rfl (p_nilCheck rfl) (dp (lj (lz (lz (ln))))) ?_
     refine h_tk (i := 14) (ls := #[T1,T1,T1,T1,T1,T1,T1,T1,T1,T1,T1,T1,T1,T1,T1,F0,F0]) rfl (p_fieldAddr (j' := 0) rfl fo122_0 rfl) (dp (lj (lz (lz (ln))))) ?_
     refine h_tk (i := 15) (ls := #[T1,T1,T1,T1,T1,T1,T1,T1,T1,T1,T1,T1,T1,T1,T1,T1,F0]) rfl (p_fieldAddr (j' := 1) rfl fo74_1 rfl) (dp (lj (lz (lz (ln))))) ?_
     refine h_one (i := 16) (ls := #[T1,T1,T1,T1,T1,T1,T1,T1,T1,T1,T1,T1,T1,T1,T1,T1,T1]) (by kernel_rfl) rfl rfl ?_
     refine o_shrinkC (i := 2) (hi := (c.room - 1).toNat) (T := tInt) rfl (by omega) ?_
     refine o_store (i := 1) (v := .slice ac_0 (c.keys.take ((c.room - 1).toNat)).length cc_0) (cs' := [Vi c.room, .slice ac_0 (c.keys.take ((c.room - 1).toNat)).length cc_0]) rfl rfl rfl sz45 rfl rfl rfl ?_
     refine o_nil ?_
     refine h_next (dp (lj (lz (lz (ln))))) ?_
     refine h_done (by kernel_rfl) ?_
     refine q_kont hK15 () (sr (sr (sr (sr (Sub.nil _))))) (pk [0, 1, 2])
   rintro _
   show SQ _ 88 w0 _ _ [(0, .pointer (some ⟨Bc, 0, none⟩)), (1, Vi key), (6, Vi (idxF (fun x : Int => (x == key)) c.keys)), (7, Vi (c.keys[(c.room - 1).toNat]))] [outer w0 [box Bc [Vi c.room, .slice ac_0 c.keys.length cc_0] 122, own tInt Sc_0 ac_0 cc_0 c.keys], box Bc [Vi c.room, .slice ac_0 (c.keys.take ((c.room - 1).toNat)).length cc_0] 122, own tInt Sc_0 ac_0 cc_0 (c.keys.take ((c.room - 1).toNat))]
   refine q_cast (F' := [(0, .pointer (some ⟨Bc, 0, none⟩)), (1, Vi key), (6, Vi (idxF (fun x : Int => (x == key)) c.keys)), (7, Vi (c.keys[(c.room - 1).toNat]))]) (H := [outer w0 [box Bc [Vi c.room, .slice ac_0 c.keys.length cc_0] 122, own tInt Sc_0 ac_0 cc_0 c.keys], box Bc [Vi c.room, .slice ac_0 (c.keys.take ((c.room - 1).toNat)).length cc_0] 122, own tInt Sc_0 ac_0 cc_0 (c.keys.take ((c.room - 1).toNat))]) (H' := [outer w0 [box Bc [Vi c.room, .slice ac_0 c.keys.length cc_0] 122, own tInt Sc_0 ac_0 cc_0 c.keys], box Bc [Vi c.room, .slice ac_0 (c.keys.take ((c.room - 1).toNat)).length cc_0] 122, own tInt Sc_0 ac_0 cc_0 (c.keys.take ((c.room - 1).toNat))]) (sr (sr (sr (sr (Sub.nil _))))) (by rfl) ?_
   refine q_block_normal (q_then ?_)
   refine c_seq (c_region ?_)
   refine o_mv rfl rfl ?_
   refine o_mv rfl rfl ?_
   refine o_p (p_nilCheck rfl) ?_
   refine o_p (p_fieldAddr (j' := 0) rfl fo122_0 rfl) ?_
   refine o_p (p_fieldAddr (j' := 1) rfl fo74_1 rfl) ?_
   refine o_p (p_load (i := 1) (v := .slice ac_0 (c.keys.take ((c.room - 1).toNat)).length cc_0) rfl rfl sh45 rfl) ?_
   refine o_mv rfl rfl ?_
   refine o_buildSlice (m := 1) (T := tInt) (L := [key]) (vs := [Vi key]) rfl rfl rfl rfl Try.underlying45 sz3 (by decide) ze3 rfl (by decide) rfl (fun S16 a17 => ?_)
   refine o_pick (H' := [own tInt Sc_0 ac_0 cc_0 (c.keys.take ((c.room - 1).toNat)), own tInt S16 a17 ([key].length) ([key]), outer w0 [box Bc [Vi c.room, .slice ac_0 c.keys.length cc_0] 122, own tInt Sc_0 ac_0 cc_0 c.keys], box Bc [Vi c.room, .slice ac_0 (c.keys.take ((c.room - 1).toNat)).length cc_0] 122]) [3, 0, 1, 2] (by decide) rfl ?_
   refine o_callX (pre := [own tInt Sc_0 ac_0 cc_0 (c.keys.take ((c.room - 1).toNat)), own tInt S16 a17 ([key].length) ([key])]) (R := [outer w0 [box Bc [Vi c.room, .slice ac_0 c.keys.length cc_0] 122, own tInt Sc_0 ac_0 cc_0 c.keys], box Bc [Vi c.room, .slice ac_0 (c.keys.take ((c.room - 1).toNat)).length cc_0] 122]) rfl (insert_Int_ok (c.keys.take ((c.room - 1).toNat)) ac_0 cc_0 Sc_0 (0 : Int) ([key]) a17 ([key].length) S16 (by (try simp only [List.length_cons, List.length_nil, List.length_append, List.length_take, List.length_drop, and_true]); omega)) hf110 rfl (fun _ _ => trivial) rfl ?_
   rintro ⟨a19, c20, S21⟩
   refine o_asH (H' := [own tInt S21 a19 c20 ((c.keys.take ((c.room - 1).toNat)).take (0 : Int).toNat ++ ([key]) ++ (c.keys.take ((c.room - 1).toNat)).drop (0 : Int).toNat), outer w0 [box Bc [Vi c.room, .slice ac_0 c.keys.length cc_0] 122, own tInt Sc_0 ac_0 cc_0 c.keys], box Bc [Vi c.room, .slice ac_0 (c.keys.take ((c.room - 1).toNat)).length cc_0] 122]) rfl ?_
   refine o_p (p_nilCheck rfl) ?_
   refine o_p (p_fieldAddr (j' := 0) rfl fo122_0 rfl) ?_
   refine o_p (p_fieldAddr (j' := 1) rfl fo74_1 rfl) ?_
   refine o_store (i := 2) (v := .slice a19 ((c.keys.take ((c.room - 1).toNat)).take (0 : Int).toNat ++ ([key]) ++ (c.keys.take ((c.room - 1).toNat)).drop (0 : Int).toNat).length c20) (cs' := [Vi c.room, .slice a19 ((c.keys.take ((c.room - 1).toNat)).take (0 : Int).toNat ++ ([key]) ++ (c.keys.take ((c.room - 1).toNat)).drop (0 : Int).toNat).length c20]) rfl rfl rfl sz45 rfl rfl rfl ?_
   refine o_nil (q_then (c_seq (c_region ?_)))
   refine o_mv rfl rfl ?_
   refine o_p (p_ge rfl rfl) ?_
   refine o_mv rfl rfl ?_
   refine o_as rfl rfl ?_
   refine o_as rfl rfl ?_
   refine o_nil (q_then (c_ret ?_))
   first
    | have ht := Lru.touch_hit (c := c) (key := key) hy1 (by assumption)
    | have ht := Lru.touch_full (c := c) (key := key) hy1 (by assumption) (by assumption) (by omega)
    | have ht := Lru.touch_add (c := c) (key := key) hy1 (by assumption) (by assumption)
   have hr0 : (c.room : Int) = ((Lru.touch c key).1).room := by
    first | (rw [ht]; done) | (rw [ht]; rfl) | (rw [ht]; exact (Lru.ins0 _ _).trans (by rw [Lru.nat1 (by omega)])) | (rw [ht]; exact decide_eq_true (by omega)) | (rw [ht]; exact decide_eq_false (by omega))
   have hr1 : (((c.keys.take ((c.room - 1).toNat)).take (0 : Int).toNat ++ ([key]) ++ (c.keys.take ((c.room - 1).toNat)).drop (0 : Int).toNat) : List Int) = ((Lru.touch c key).1).keys := by
    first | (rw [ht]; done) | (rw [ht]; rfl) | (rw [ht]; exact (Lru.ins0 _ _).trans (by rw [Lru.nat1 (by omega)])) | (rw [ht]; exact decide_eq_true (by omega)) | (rw [ht]; exact decide_eq_false (by omega))
   have hr2 : (decide (0 ≤ (idxF (fun x : Int => (x == key)) c.keys)) : Bool) = ((Lru.touch c key).2.1) := by
    first | (rw [ht]; done) | (rw [ht]; rfl) | (rw [ht]; exact (Lru.ins0 _ _).trans (by rw [Lru.nat1 (by omega)])) | (rw [ht]; exact decide_eq_true (by omega)) | (rw [ht]; exact decide_eq_false (by omega))
   have hr3 : (c.keys[(c.room - 1).toNat] : Int) = ((Lru.touch c key).2.2) := by
    first | (rw [ht]; done) | (rw [ht]; rfl) | (rw [ht]; exact (Lru.ins0 _ _).trans (by rw [Lru.nat1 (by omega)])) | (rw [ht]; exact decide_eq_true (by omega)) | (rw [ht]; exact decide_eq_false (by omega))
   refine q_endX (p := (a19, c20, S21)) (rt2 rfl (r_tmp rfl) (r_tmp rfl)) ?_ (fun w hw => ?_)
   ·exact (by have hcc := congr (congr (congr (congrArg (fun (y0 : Int) (y1 : List Int) (y2 : Bool) (y3 : Int) => (.tuple #[.bool y2, .int .i64 y3] : Value)) hr0) hr1) hr2) hr3; exact hcc)
   ·have h2 := hw.pick (H' := [outer w0 [box Bc [Vi c.room, .slice ac_0 c.keys.length cc_0] 122, own tInt Sc_0 ac_0 cc_0 c.keys], box Bc [Vi c.room, .slice a19 ((c.keys.take ((c.room - 1).toNat)).take (0 : Int).toNat ++ ([key]) ++ (c.keys.take ((c.room - 1).toNat)).drop (0 : Int).toNat).length c20] 122, own tInt S21 a19 c20 ((c.keys.take ((c.room - 1).toNat)).take (0 : Int).toNat ++ ([key]) ++ (c.keys.take ((c.room - 1).toNat)).drop (0 : Int).toNat)]) [1, 2, 0] (by decide) rfl
    exact Eq.mp (congrArg (fun z => HeapIs w0 ((outer w0 [box Bc [Vi c.room, .slice ac_0 c.keys.length cc_0] 122, own tInt Sc_0 ac_0 cc_0 c.keys]) :: z) w) ((by have hcc := congr (congr (congr (congrArg (fun (y0 : Int) (y1 : List Int) (y2 : Bool) (y3 : Int) => ([box Bc [.int .i64 y0, .slice a19 y1.length c20] 122, own tInt S21 a19 c20 y1] : List Ent)) hr0) hr1) hr2) hr3; exact hcc))) h2
  ·simp only [beq_eq_false_iff_ne, ne_eq] at hc13
   refine c_skip ?_
   refine q_block_normal (q_then ?_)
   refine c_seq (c_region ?_)
   refine o_mv rfl rfl ?_
   refine o_mv rfl rfl ?_
   refine o_p (p_nilCheck rfl) ?_
   refine o_p (p_fieldAddr (j' := 0) rfl fo122_0 rfl) ?_
   refine o_p (p_fieldAddr (j' := 1) rfl fo74_1 rfl) ?_
   refine o_p (p_load (i := 1) (v := .slice ac_0 c.keys.length cc_0) rfl rfl sh45 rfl) ?_
   refine o_mv rfl rfl ?_
   refine o_buildSlice (m := 1) (T := tInt) (L := [key]) (vs := [Vi key]) rfl rfl rfl rfl Try.underlying45 sz3 (by decide) ze3 rfl (by decide) rfl (fun S23 a24 => ?_)
   refine o_pick (H' := [own tInt Sc_0 ac_0 cc_0 c.keys, own tInt S23 a24 ([key].length) ([key]), outer w0 [box Bc [Vi c.room, .slice ac_0 c.keys.length cc_0] 122, own tInt Sc_0 ac_0 cc_0 c.keys], box Bc [Vi c.room, .slice ac_0 c.keys.length cc_0] 122]) [3, 0, 1, 2] (by decide) rfl ?_
   refine o_callX (pre := [own tInt Sc_0 ac_0 cc_0 c.keys, own tInt S23 a24 ([key].length) ([key])]) (R := [outer w0 [box Bc [Vi c.room, .slice ac_0 c.keys.length cc_0] 122, own tInt Sc_0 ac_0 cc_0 c.keys], box Bc [Vi c.room, .slice ac_0 c.keys.length cc_0] 122]) rfl (insert_Int_ok c.keys ac_0 cc_0 Sc_0 (0 : Int) ([key]) a24 ([key].length) S23 (by (try simp only [List.length_cons, List.length_nil, List.length_append, List.length_take, List.length_drop, and_true]); omega)) hf110 rfl (fun _ _ => trivial) rfl ?_
   rintro ⟨a26, c27, S28⟩
   refine o_asH (H' := [own tInt S28 a26 c27 (c.keys.take (0 : Int).toNat ++ ([key]) ++ c.keys.drop (0 : Int).toNat), outer w0 [box Bc [Vi c.room, .slice ac_0 c.keys.length cc_0] 122, own tInt Sc_0 ac_0 cc_0 c.keys], box Bc [Vi c.room, .slice ac_0 c.keys.length cc_0] 122]) rfl ?_
   refine o_p (p_nilCheck rfl) ?_
   refine o_p (p_fieldAddr (j' := 0) rfl fo122_0 rfl) ?_
   refine o_p (p_fieldAddr (j' := 1) rfl fo74_1 rfl) ?_
   refine o_store (i := 2) (v := .slice a26 (c.keys.take (0 : Int).toNat ++ ([key]) ++ c.keys.drop (0 : Int).toNat).length c27) (cs' := [Vi c.room, .slice a26 (c.keys.take (0 : Int).toNat ++ ([key]) ++ c.keys.drop (0 : Int).toNat).length c27]) rfl rfl rfl sz45 rfl rfl rfl ?_
   refine o_nil (q_then (c_seq (c_region ?_)))
   refine o_mv rfl rfl ?_
   refine o_p (p_ge rfl rfl) ?_
   refine o_mv rfl rfl ?_
   refine o_as rfl rfl ?_
   refine o_as rfl rfl ?_
   refine o_nil (q_then (c_ret ?_))
   first
    | have ht := Lru.touch_hit (c := c) (key := key) hy1 (by assumption)
    | have ht := Lru.touch_full (c := c) (key := key) hy1 (by assumption) (by assumption) (by omega)
    | have ht := Lru.touch_add (c := c) (key := key) hy1 (by assumption) (by assumption)
   have hr0 : (c.room : Int) = ((Lru.touch c key).1).room := by
    first | (rw [ht]; done) | (rw [ht]; rfl) | (rw [ht]; exact (Lru.ins0 _ _).trans (by rw [Lru.nat1 (by omega)])) | (rw [ht]; exact decide_eq_true (by omega)) | (rw [ht]; exact decide_eq_false (by omega))
   have hr1 : ((c.keys.take (0 : Int).toNat ++ ([key]) ++ c.keys.drop (0 : Int).toNat) : List Int) = ((Lru.touch c key).1).keys := by
    first | (rw [ht]; done) | (rw [ht]; rfl) | (rw [ht]; exact (Lru.ins0 _ _).trans (by rw [Lru.nat1 (by omega)])) | (rw [ht]; exact decide_eq_true (by omega)) | (rw [ht]; exact decide_eq_false (by omega))
   have hr2 : (decide (0 ≤ (idxF (fun x : Int => (x == key)) c.keys)) : Bool) = ((Lru.touch c key).2.1) := by
    first | (rw [ht]; done) | (rw [ht]; rfl) | (rw [ht]; exact (Lru.ins0 _ _).trans (by rw [Lru.nat1 (by omega)])) | (rw [ht]; exact decide_eq_true (by omega)) | (rw [ht]; exact decide_eq_false (by omega))
   have hr3 : ((-1) : Int) = ((Lru.touch c key).2.2) := by
    first | (rw [ht]; done) | (rw [ht]; rfl) | (rw [ht]; exact (Lru.ins0 _ _).trans (by rw [Lru.nat1 (by omega)])) | (rw [ht]; exact decide_eq_true (by omega)) | (rw [ht]; exact decide_eq_false (by omega))
   refine q_endX (p := (a26, c27, S28)) (rt2 rfl (r_tmp rfl) (r_tmp rfl)) ?_ (fun w hw => ?_)
   ·exact (by have hcc := congr (congr (congr (congrArg (fun (y0 : Int) (y1 : List Int) (y2 : Bool) (y3 : Int) => (.tuple #[.bool y2, .int .i64 y3] : Value)) hr0) hr1) hr2) hr3; exact hcc)
   ·have h2 := hw.pick (H' := [outer w0 [box Bc [Vi c.room, .slice ac_0 c.keys.length cc_0] 122, own tInt Sc_0 ac_0 cc_0 c.keys], box Bc [Vi c.room, .slice a26 (c.keys.take (0 : Int).toNat ++ ([key]) ++ c.keys.drop (0 : Int).toNat).length c27] 122, own tInt S28 a26 c27 (c.keys.take (0 : Int).toNat ++ ([key]) ++ c.keys.drop (0 : Int).toNat)]) [1, 2, 0] (by decide) rfl
    exact Eq.mp (congrArg (fun z => HeapIs w0 ((outer w0 [box Bc [Vi c.room, .slice ac_0 c.keys.length cc_0] 122, own tInt Sc_0 ac_0 cc_0 c.keys]) :: z) w) ((by have hcc := congr (congr (congr (congrArg (fun (y0 : Int) (y1 : List Int) (y2 : Bool) (y3 : Int) => ([box Bc [.int .i64 y0, .slice a26 y1.length c27] 122, own tInt S28 a26 c27 y1] : List Ent)) hr0) hr1) hr2) hr3; exact hcc))) h2

set_option maxHeartbeats 8000000 in
set_option maxRecDepth 100000 in
theorem laccess_ok (c : DCache) (ac_0 : Option Addr) (cc_0 : Nat) (key : Int) : FnM Try.prog 51 [.agg #[Vi c.room, .slice ac_0 c.keys.length cc_0], Vi key] (fun w => Rd tInt w ac_0 cc_0 c.keys) (Option Addr × Nat) (fun p => .tuple #[.agg #[Vi (((Lru.access c key).1).room), .slice p.1 (((Lru.access c key).1).keys).length p.2], .bool ((Lru.access c key).2.1), Vi ((Lru.access c key).2.2), Vi (Lru.accessErr c key)]) (fun p S w => SlO tInt S w p.1 p.2 (((Lru.access c key).1).keys)) := by
 refine fnM (nt := 39) (F0 := [(0, .agg #[Vi c.room, .slice ac_0 c.keys.length cc_0]), (1, Vi key)]) Try.func51 rfl Try.ntmps51 rfl rfl (fun w0 hpre => ?_)
 have hc_0 := hpre
 have hlhc_0 := hc_0.2.1
 refine c_seq (c_region ?_)
 refine o_box (v := .agg #[Vi c.room, .slice ac_0 c.keys.length cc_0]) rfl rfl (fun B1 => ?_)
 refine o_alloc ze74 rfl (fun B2 => ?_)
 refine o_as rfl rfl ?_
 refine o_as rfl rfl ?_
 refine o_as rfl rfl ?_
 refine o_nil (q_then (c_seq (c_region ?_)))
 refine o_p (p_load_agg (i := 1) (vs := [Vi c.room, .slice ac_0 c.keys.length cc_0]) rfl rfl sh74 rfl rfl) ?_
 refine o_call0 (v := Vi (Lru.check c)) rfl (lcheck_ok c ac_0 cc_0) hf82 (fun w hw => (rd_base (i := 2) rfl hc_0) w hw) rfl ?_
 refine o_as rfl rfl ?_
 refine o_nil (q_then (c_seq (c_seq (c_region ?_))))
 refine o_mv rfl rfl ?_
 refine o_p (p_eq rfl rfl) ?_
 refine o_mv rfl rfl ?_
 refine o_and (p := 20) 4 (!(Lru.okKey key)) ?_ ?_ ?_
 ·intro hb3 hk
  simp only [beq_iff_eq] at hb3
  refine o_unguard 16 rfl rfl ?_
  refine o_mv rfl rfl ?_
  refine o_unguard 16 rfl rfl ?_
  refine o_call0 (v := .bool (Lru.okKey key)) rfl (key_ok key) hf85 (fun _ _ => trivial) rfl ?_
  refine o_unguard 16 rfl rfl ?_
  refine o_p (p_not (b := (Lru.okKey key)) rfl) ?_
  refine o_pt rfl rfl rfl ?_
  exact o_sub (sr (Sub.skip rfl (Sub.skip rfl (Sub.skip rfl (Sub.skip rfl (Sub.skip rfl (Sub.refl _))))))) hk
 ·intro hb3 hk
  refine o_guard_no rfl 16 rfl rfl rfl rfl rfl ?_
  refine o_guard_no rfl 16 rfl rfl rfl rfl rfl ?_
  refine o_guard_no rfl 16 rfl rfl rfl rfl rfl ?_
  refine o_pf rfl rfl rfl ?_
  exact o_sub (sr (Sub.skip rfl (Sub.skip rfl (Sub.skip rfl (Sub.skip rfl (Sub.skip rfl (Sub.refl _))))))) hk
 refine o_nil (q_then ?_)
 refine c_cond rfl (fun hc4 => ?_) (fun hc4 => ?_)
 ·simp only [Bool.and_eq_true, beq_iff_eq, Bool.not_eq_true'] at hc4
  refine c_region ?_
  refine o_as rfl rfl ?_
  refine o_nil (q_then (c_seq (c_seq (c_region ?_))))
  refine o_mv rfl rfl ?_
  refine o_p (p_ne rfl rfl) ?_
  refine o_nil (q_then ?_)
  refine c_true rfl ?_
  refine c_seq (c_region ?_)
  refine o_p (p_build (cells := [Vi 0, .slice none 0 0]) fp74 ze74 rfl rfl) ?_
  refine o_mv rfl rfl ?_
  refine o_storeN (i := 0) (vs := [Vi 0, .slice none 0 0]) (cs' := [Vi 0, .slice none 0 0]) rfl rfl rfl sz74 rfl rfl rfl rfl ?_
  refine o_as rfl rfl ?_
  refine o_as rfl rfl ?_
  refine o_as rfl rfl ?_
  refine o_nil (q_then (c_ret ?_))
  refine q_then_ret ?_
  obtain ⟨ha, hae⟩ : _ ∧ _ := by first | exact Lru.acc1 (c := c) (key := key) (by assumption) | exact Lru.acc2 (c := c) (key := key) (by assumption) | exact Lru.acc3 (c := c) (key := key) (by assumption) (by assumption)
  have hr0 : (0 : Int) = ((Lru.access c key).1).room := by
   simp only [ha, hae, Lru.zero]
  have hr1 : ([] : List Int) = ((Lru.access c key).1).keys := by
   simp only [ha, hae, Lru.zero]
  have hr2 : (false : Bool) = ((Lru.access c key).2.1) := by
   simp only [ha, hae, Lru.zero]
  have hr3 : (0 : Int) = ((Lru.access c key).2.2) := by
   simp only [ha, hae, Lru.zero]
  have hr4 : (3 : Int) = (Lru.accessErr c key) := by
   simp only [ha, hae, Lru.zero]
  refine q_endM (p := (none, 0)) (fun _ => False) (rt4 rfl (r_cell (i := 0) rfl rfl sh74 rfl) (r_tmp rfl) (r_tmp rfl) (r_tmp rfl)) (i := 2) rfl ?_ ?_ ?_
  ·exact (by have hcc := congr (congr (congr (congr (congrArg (fun (y0 : Int) (y1 : List Int) (y2 : Bool) (y3 : Int) (y4 : Int) => (.tuple #[.agg #[.int .i64 y0, .slice none y1.length 0], .bool y2, .int .i64 y3, .int .i64 y4] : Value)) hr0) hr1) hr2) hr3) hr4; exact hcc)
  ·intro w hw b hb; exact hb.elim
  ·intro w hw; exact Eq.mp (congrArg (fun y => SlO tInt _ w none 0 y) hr1) (SlO.nil tInt w)
 ·simp only [Bool.and_eq_false_iff, beq_eq_false_iff_ne, ne_eq, Bool.not_eq_false'] at hc4
  refine c_skip (q_then (c_seq (c_seq (c_region ?_))))
  refine o_mv rfl rfl ?_
  refine o_p (p_ne rfl rfl) ?_
  refine o_nil (q_then ?_)
  refine c_cond rfl (fun hc5 => ?_) (fun hc5 => ?_)
  ·simp only [bne_iff_ne, ne_eq] at hc5
   refine c_seq (c_region ?_)
   refine o_p (p_build (cells := [Vi 0, .slice none 0 0]) fp74 ze74 rfl rfl) ?_
   refine o_mv rfl rfl ?_
   refine o_storeN (i := 0) (vs := [Vi 0, .slice none 0 0]) (cs' := [Vi 0, .slice none 0 0]) rfl rfl rfl sz74 rfl rfl rfl rfl ?_
   refine o_as rfl rfl ?_
   refine o_as rfl rfl ?_
   refine o_as rfl rfl ?_
   refine o_nil (q_then (c_ret ?_))
   refine q_then_ret ?_
   obtain ⟨ha, hae⟩ : _ ∧ _ := by first | exact Lru.acc1 (c := c) (key := key) (by assumption) | exact Lru.acc2 (c := c) (key := key) (by assumption) | exact Lru.acc3 (c := c) (key := key) (by assumption) (by assumption)
   have hr0 : (0 : Int) = ((Lru.access c key).1).room := by
    simp only [ha, hae, Lru.zero]
   have hr1 : ([] : List Int) = ((Lru.access c key).1).keys := by
    simp only [ha, hae, Lru.zero]
   have hr2 : (false : Bool) = ((Lru.access c key).2.1) := by
    simp only [ha, hae, Lru.zero]
   have hr3 : (0 : Int) = ((Lru.access c key).2.2) := by
    simp only [ha, hae, Lru.zero]
   have hr4 : ((Lru.check c) : Int) = (Lru.accessErr c key) := by
    simp only [ha, hae, Lru.zero]
   refine q_endM (p := (none, 0)) (fun _ => False) (rt4 rfl (r_cell (i := 0) rfl rfl sh74 rfl) (r_tmp rfl) (r_tmp rfl) (r_tmp rfl)) (i := 2) rfl ?_ ?_ ?_
   ·exact (by have hcc := congr (congr (congr (congr (congrArg (fun (y0 : Int) (y1 : List Int) (y2 : Bool) (y3 : Int) (y4 : Int) => (.tuple #[.agg #[.int .i64 y0, .slice none y1.length 0], .bool y2, .int .i64 y3, .int .i64 y4] : Value)) hr0) hr1) hr2) hr3) hr4; exact hcc)
   ·intro w hw b hb; exact hb.elim
   ·intro w hw; exact Eq.mp (congrArg (fun y => SlO tInt _ w none 0 y) hr1) (SlO.nil tInt w)
  ·simp only [bne_eq_false_iff_eq] at hc5
   have hok := Lru.ok_of hc5
   have hroom := hok.room
   have hlen := hok.len
   refine c_skip (q_then (c_seq (c_region ?_)))
   refine o_p (p_load_agg (i := 1) (vs := [Vi c.room, .slice ac_0 c.keys.length cc_0]) rfl rfl sh74 rfl rfl) ?_
   refine o_callX (pre := []) (R := [box B2 [Vi 0, .slice none 0 0] 74, box B1 [Vi c.room, .slice ac_0 c.keys.length cc_0] 74, base w0]) rfl (lowned_ok c ac_0 cc_0 (by omega)) hf83 rfl (fun w hw => (rdX (i := 2) (js := []) rfl (by decide) rfl (fun _ hA => slR_base hc_0 hA)) w hw) rfl ?_
   rintro ⟨B6, a7, c8, S9⟩
   refine o_asH (H' := [box B6 [Vi c.room, .slice a7 c.keys.length c8] 122, own tInt S9 a7 c8 c.keys, box B2 [Vi 0, .slice none 0 0] 74, box B1 [Vi c.room, .slice ac_0 c.keys.length cc_0] 74, base w0]) rfl ?_
   refine o_as rfl rfl ?_
   refine o_nil (q_then (c_seq (c_region ?_)))
   refine o_mv rfl rfl ?_
   refine o_mv rfl rfl ?_
   refine o_callX (pre := [box B6 [Vi c.room, .slice a7 c.keys.length c8] 122, own tInt S9 a7 c8 c.keys]) (R := [box B2 [Vi 0, .slice none 0 0] 74, box B1 [Vi c.room, .slice ac_0 c.keys.length cc_0] 74, base w0]) rfl (ltouch_ok c B6 a7 c8 S9 key (by first | assumption | exact hI.ok | omega)) hf84 rfl (fun _ _ => trivial) rfl ?_
   rintro ⟨a11, c12, S13⟩
   refine o_asH (H' := [box B6 [Vi (((Lru.touch c key).1).room), .slice a11 (((Lru.touch c key).1).keys).length c12] 122, own tInt S13 a11 c12 (((Lru.touch c key).1).keys), box B2 [Vi 0, .slice none 0 0] 74, box B1 [Vi c.room, .slice ac_0 c.keys.length cc_0] 74, base w0]) rfl ?_
   refine o_mv rfl rfl ?_
   refine o_ex rfl rfl rfl ?_
   refine o_ex rfl rfl rfl ?_
   refine o_as rfl rfl ?_
   refine o_as rfl rfl ?_
   refine o_nil (q_then (c_seq (c_region ?_)))
   refine o_mv rfl rfl ?_
   refine o_p (p_nilCheck rfl) ?_
   refine o_p (p_fieldAddr (j' := 0) rfl fo122_0 rfl) ?_
   refine o_p (p_load_agg (i := 0) (vs := [Vi (((Lru.touch c key).1).room), .slice a11 (((Lru.touch c key).1).keys).length c12]) rfl rfl sh74 rfl rfl) ?_
   refine o_mv rfl rfl ?_
   refine o_mv rfl rfl ?_
   refine o_storeN (i := 2) (vs := [Vi (((Lru.touch c key).1).room), .slice a11 (((Lru.touch c key).1).keys).length c12]) (cs' := [Vi (((Lru.touch c key).1).room), .slice a11 (((Lru.touch c key).1).keys).length c12]) rfl rfl rfl sz74 rfl rfl rfl rfl ?_
   refine o_as rfl rfl ?_
   refine o_as rfl rfl ?_
   refine o_as rfl rfl ?_
   refine o_nil (q_then (c_ret ?_))
   obtain ⟨ha, hae⟩ : _ ∧ _ := by first | exact Lru.acc1 (c := c) (key := key) (by assumption) | exact Lru.acc2 (c := c) (key := key) (by assumption) | exact Lru.acc3 (c := c) (key := key) (by assumption) (by assumption)
   have hr0 : (((Lru.touch c key).1).room : Int) = ((Lru.access c key).1).room := by
    simp only [ha, hae, Lru.zero]
   have hr1 : (((Lru.touch c key).1).keys : List Int) = ((Lru.access c key).1).keys := by
    simp only [ha, hae, Lru.zero]
   have hr2 : (((Lru.touch c key).2.1) : Bool) = ((Lru.access c key).2.1) := by
    simp only [ha, hae, Lru.zero]
   have hr3 : (((Lru.touch c key).2.2) : Int) = ((Lru.access c key).2.2) := by
    simp only [ha, hae, Lru.zero]
   have hr4 : (0 : Int) = (Lru.accessErr c key) := by
    simp only [ha, hae, Lru.zero]
   refine q_endM (p := (a11, c12)) S13 (rt4 rfl (r_cell (i := 2) rfl rfl sh74 rfl) (r_tmp rfl) (r_tmp rfl) (r_tmp rfl)) (i := 4) rfl ?_ ?_ ?_
   ·exact (by have hcc := congr (congr (congr (congr (congrArg (fun (y0 : Int) (y1 : List Int) (y2 : Bool) (y3 : Int) (y4 : Int) => (.tuple #[.agg #[.int .i64 y0, .slice a11 y1.length c12], .bool y2, .int .i64 y3, .int .i64 y4] : Value)) hr0) hr1) hr2) hr3) hr4; exact hcc)
   ·exact fun w hw => hw.above (i := 4) (j := 1) (by decide) rfl rfl
   ·intro w hw; exact Eq.mp (congrArg (fun y => SlO tInt _ w a11 c12 y) hr1) ((hw.at (i := 1) rfl).here)

set_option maxHeartbeats 8000000 in
set_option maxRecDepth 100000 in
theorem lrun_ok (c : DCache) (ac_0 : Option Addr) (cc_0 : Nat) (l : List Int) (al : Option Addr) (cl : Nat) : FnM Try.prog 49 [.agg #[Vi c.room, .slice ac_0 c.keys.length cc_0], .slice al l.length cl] (fun w => Rd tInt w ac_0 cc_0 c.keys ∧ Rd tInt w al cl l) (Option Addr × Nat) (fun p => .tuple #[.agg #[Vi (((Lru.run c l).1).room), .slice p.1 (((Lru.run c l).1).keys).length p.2], Vi ((Lru.run c l).2), Vi (Lru.runErr c l)]) (fun p S w => SlO tInt S w p.1 p.2 (((Lru.run c l).1).keys)) := by
 refine fnM (nt := 47) (F0 := [(0, .agg #[Vi c.room, .slice ac_0 c.keys.length cc_0]), (1, .slice al l.length cl)]) Try.func49 rfl Try.ntmps49 rfl rfl (fun w0 hpre => ?_)
 obtain ⟨hc_0, hl⟩ := hpre
 have hlhc_0 := hc_0.2.1
 have hlhl := hl.2.1
 refine c_seq (c_region ?_)
 refine o_box (v := .agg #[Vi c.room, .slice ac_0 c.keys.length cc_0]) rfl rfl (fun B1 => ?_)
 refine o_alloc ze74 rfl (fun B2 => ?_)
 refine o_as rfl rfl ?_
 refine o_as rfl rfl ?_
 refine o_nil (q_then (c_seq (c_region ?_)))
 refine o_p (p_load_agg (i := 1) (vs := [Vi c.room, .slice ac_0 c.keys.length cc_0]) rfl rfl sh74 rfl rfl) ?_
 refine o_call0 (v := Vi (Lru.check c)) rfl (lcheck_ok c ac_0 cc_0) hf82 (fun w hw => (rd_base (i := 2) rfl hc_0) w hw) rfl ?_
 refine o_as rfl rfl ?_
 refine o_nil (q_then (c_seq (c_seq (c_region ?_))))
 refine o_mv rfl rfl ?_
 refine o_p (p_eq rfl rfl) ?_
 refine o_nil (q_then ?_)
 refine c_cond rfl (fun hc3 => ?_) (fun hc3 => ?_)
 ·simp only [beq_iff_eq] at hc3
  have hok := Lru.ok_of hc3
  have hroom := hok.room
  have hlen := hok.len
  refine c_region ?_
  refine o_mv rfl rfl ?_
  refine o_call0 (v := Vi (Lru.trace l)) rfl (checkTrace_ok l al cl) hf73 (fun w hw => (rd_base (i := 2) rfl hl) w hw) rfl ?_
  refine o_as rfl rfl ?_
  refine o_nil (q_then (c_seq (c_seq (c_region ?_))))
  refine o_mv rfl rfl ?_
  refine o_p (p_ne rfl rfl) ?_
  refine o_nil (q_then ?_)
  refine c_cond rfl (fun hc4 => ?_) (fun hc4 => ?_)
  ·simp only [bne_iff_ne, ne_eq] at hc4
   refine c_seq (c_region ?_)
   refine o_p (p_build (cells := [Vi 0, .slice none 0 0]) fp74 ze74 rfl rfl) ?_
   refine o_mv rfl rfl ?_
   refine o_storeN (i := 0) (vs := [Vi 0, .slice none 0 0]) (cs' := [Vi 0, .slice none 0 0]) rfl rfl rfl sz74 rfl rfl rfl rfl ?_
   refine o_as rfl rfl ?_
   refine o_as rfl rfl ?_
   refine o_nil (q_then (c_ret ?_))
   refine q_then_ret ?_
   obtain ⟨ha, hae⟩ : _ ∧ _ := by first | exact Lru.run1 (c := c) (l := l) (by assumption) | exact Lru.run2 (c := c) (l := l) (by assumption) (by assumption) | (obtain ⟨h1, h2⟩ := Lru.run3 (c := c) (l := l) (by assumption) (by assumption); rw [hI.done (by omega)] at h1; exact ⟨h1, h2⟩)
   have hr0 : (0 : Int) = ((Lru.run c l).1).room := by
    simp only [ha, hae, Lru.zero]
   have hr1 : ([] : List Int) = ((Lru.run c l).1).keys := by
    simp only [ha, hae, Lru.zero]
   have hr2 : (0 : Int) = ((Lru.run c l).2) := by
    simp only [ha, hae, Lru.zero]
   have hr3 : ((Lru.trace l) : Int) = (Lru.runErr c l) := by
    simp only [ha, hae, Lru.zero]
   refine q_endM (p := (none, 0)) (fun _ => False) (rt3 rfl (r_cell (i := 0) rfl rfl sh74 rfl) (r_tmp rfl) (r_tmp rfl)) (i := 2) rfl ?_ ?_ ?_
   ·exact (by have hcc := congr (congr (congr (congrArg (fun (y0 : Int) (y1 : List Int) (y2 : Int) (y3 : Int) => (.tuple #[.agg #[.int .i64 y0, .slice none y1.length 0], .int .i64 y2, .int .i64 y3] : Value)) hr0) hr1) hr2) hr3; exact hcc)
   ·intro w hw b hb; exact hb.elim
   ·intro w hw; exact Eq.mp (congrArg (fun y => SlO tInt _ w none 0 y) hr1) (SlO.nil tInt w)
  ·simp only [bne_eq_false_iff_eq] at hc4
   refine c_skip (q_then (c_seq (c_region ?_)))
   refine o_p (p_load_agg (i := 1) (vs := [Vi c.room, .slice ac_0 c.keys.length cc_0]) rfl rfl sh74 rfl rfl) ?_
   refine o_callX (pre := []) (R := [box B2 [Vi 0, .slice none 0 0] 74, box B1 [Vi c.room, .slice ac_0 c.keys.length cc_0] 74, base w0]) rfl (lowned_ok c ac_0 cc_0 (by omega)) hf83 rfl (fun w hw => (rdX (i := 2) (js := []) rfl (by decide) rfl (fun _ hA => slR_base hc_0 hA)) w hw) rfl ?_
   rintro ⟨B5, a6, c7, S8⟩
   refine o_asH (H' := [box B5 [Vi c.room, .slice a6 c.keys.length c7] 122, own tInt S8 a6 c7 c.keys, box B2 [Vi 0, .slice none 0 0] 74, box B1 [Vi c.room, .slice ac_0 c.keys.length cc_0] 74, base w0]) rfl ?_
   refine o_as rfl rfl ?_
   refine o_as rfl rfl ?_
   refine o_nil (q_then (c_seq (c_seq (c_region ?_))))
   refine o_mv rfl rfl ?_
   refine o_p (p_len_slice rfl rfl Try.underlying45) ?_
   refine o_mv rfl rfl ?_
   refine o_nil (q_then (c_block ?_))
   refine c_loop (St := Int × Nat × DCache × Option Addr × Nat × (Nat → Prop))
    (fun ⟨hits, k, cc, acc_0, ccc_0, Scc_0⟩ => [(4, .pointer (some ⟨B2, 0, none⟩)), (8, .pointer (some ⟨B5, 0, none⟩)), (9, Vi hits), (26, .slice al l.length cl), (27, Vi (l.length : Int)), (28, Vi (k : Int))])
    (fun ⟨hits, k, cc, acc_0, ccc_0, Scc_0⟩ => [box B5 [Vi cc.room, .slice acc_0 cc.keys.length ccc_0] 122, own tInt Scc_0 acc_0 ccc_0 cc.keys, box B2 [Vi 0, .slice none 0 0] 74, box B1 [Vi c.room, .slice ac_0 c.keys.length cc_0] 74, base w0])
    (fun ⟨hits, k, cc, acc_0, ccc_0, Scc_0⟩ => Lru.RInv c cc l hits k)
    (fun ⟨hits, k, cc, acc_0, ccc_0, Scc_0⟩ => l.length - k)
    (0, 0, c, a6, c7, S8) ?_ (sr (sr (sr (sr (sr (sr (Sub.nil _))))))) (fun _ hw => hw) ?_
   ·exact Lru.RInv.start' (by assumption) (by assumption)
   rintro ⟨hits, k, cc, acc_0, ccc_0, Scc_0⟩ hI K hK10
   have hn0 := hI.n0
   have hn1 := hI.n1
   show SC _ _ Try.prog 47 w0 _ _ [(4, .pointer (some ⟨B2, 0, none⟩)), (8, .pointer (some ⟨B5, 0, none⟩)), (9, Vi hits), (26, .slice al l.length cl), (27, Vi (l.length : Int)), (28, Vi (k : Int))] [box B5 [Vi cc.room, .slice acc_0 cc.keys.length ccc_0] 122, own tInt Scc_0 acc_0 ccc_0 cc.keys, box B2 [Vi 0, .slice none 0 0] 74, box B1 [Vi c.room, .slice ac_0 c.keys.length cc_0] 74, base w0]
   refine c_seq (c_region ?_)
   refine o_p (p_lt rfl rfl) ?_
   refine o_nil (q_then (c_seq ?_))
   refine c_cond rfl (fun hc11 => ?_) (fun hc11 => ?_)
   ·simp only [decide_eq_true_eq] at hc11
    refine c_skip (q_then (c_seq (c_block (c_seq (c_region ?_)))))
    refine o_p (p_indexAddr (L := l) (T := tInt) (i := (k : Int)) rfl rfl (rd_base (i := 4) rfl hl) Try.underlying45 sz3 (by omega) (by omega)) ?_
    refine o_p (p_loadE1 (i := k) (T := tInt) (L := l) (v := Vi (l[k])) rfl (rd_base (i := 4) rfl hl) (by first | assumption | omega) sh3 rfl) ?_
    refine o_as rfl rfl ?_
    refine o_nil (q_then (c_seq (c_region ?_)))
    refine o_mv rfl rfl ?_
    refine o_mv rfl rfl ?_
    refine o_callX (pre := [box B5 [Vi cc.room, .slice acc_0 cc.keys.length ccc_0] 122, own tInt Scc_0 acc_0 ccc_0 cc.keys]) (R := [box B2 [Vi 0, .slice none 0 0] 74, box B1 [Vi c.room, .slice ac_0 c.keys.length cc_0] 74, base w0]) rfl (ltouch_ok cc B5 acc_0 ccc_0 Scc_0 (l[k]) (by first | assumption | exact hI.ok | omega)) hf84 rfl (fun _ _ => trivial) rfl ?_
    rintro ⟨a12, c13, S14⟩
    refine o_asH (H' := [box B5 [Vi (((Lru.touch cc (l[k])).1).room), .slice a12 (((Lru.touch cc (l[k])).1).keys).length c13] 122, own tInt S14 a12 c13 (((Lru.touch cc (l[k])).1).keys), box B2 [Vi 0, .slice none 0 0] 74, box B1 [Vi c.room, .slice ac_0 c.keys.length cc_0] 74, base w0]) rfl ?_
    refine o_mv rfl rfl ?_
    refine o_ex rfl rfl rfl ?_
    refine o_ex rfl rfl rfl ?_
    refine o_as rfl rfl ?_
    refine o_as rfl rfl ?_
    refine o_nil (q_then (c_seq (c_region ?_)))
    refine o_mv rfl rfl ?_
    refine o_nil (q_then ?_)
    refine c_cond rfl (fun hc16 => ?_) (fun hc16 => ?_)
    ·skip
     refine c_region ?_
     refine o_mv rfl rfl ?_
     refine o_p (p_addb rfl rfl (by omega)) ?_
     refine o_as rfl rfl ?_
     refine o_nil ?_
     refine q_block_normal (q_then ?_)
     refine c_region ?_
     refine o_p (p_addb rfl rfl (by omega)) ?_
     refine o_mv rfl rfl ?_
     refine o_nil ?_
     refine q_round hK10 ((hits + 1), k + 1, ((Lru.touch cc (l[k])).1), a12, c13, S14) ?_ ?_ ?_ ?_
     ·clear hK10
      first | exact hI.hit (by omega) (by assumption) | exact hI.miss (by omega) (by assumption)
     ·(try dsimp only); omega
     ·exact sr (sr (sr (sr (sr (sr (Sub.nil _))))))
     ·exact pk [0, 1, 2, 3, 4]
    ·skip
     refine c_skip ?_
     refine q_block_normal (q_then ?_)
     refine c_region ?_
     refine o_p (p_addb rfl rfl (by omega)) ?_
     refine o_mv rfl rfl ?_
     refine o_nil ?_
     refine q_round hK10 (hits, k + 1, ((Lru.touch cc (l[k])).1), a12, c13, S14) ?_ ?_ ?_ ?_
     ·clear hK10
      first | exact hI.hit (by omega) (by assumption) | exact hI.miss (by omega) (by assumption)
     ·(try dsimp only); omega
     ·exact sr (sr (sr (sr (sr (sr (Sub.nil _))))))
     ·exact pk [0, 1, 2, 3, 4]
   ·simp only [decide_eq_false_iff_not, Int.not_lt] at hc11
    refine c_exit ?_
    refine q_then_exit (q_then_exit (q_block_exit (q_then ?_)))
    refine c_seq (c_region ?_)
    refine o_mv rfl rfl ?_
    refine o_p (p_nilCheck rfl) ?_
    refine o_p (p_fieldAddr (j' := 0) rfl fo122_0 rfl) ?_
    refine o_p (p_load_agg (i := 0) (vs := [Vi cc.room, .slice acc_0 cc.keys.length ccc_0]) rfl rfl sh74 rfl rfl) ?_
    refine o_mv rfl rfl ?_
    refine o_storeN (i := 2) (vs := [Vi cc.room, .slice acc_0 cc.keys.length ccc_0]) (cs' := [Vi cc.room, .slice acc_0 cc.keys.length ccc_0]) rfl rfl rfl sz74 rfl rfl rfl rfl ?_
    refine o_as rfl rfl ?_
    refine o_as rfl rfl ?_
    refine o_nil (q_then (c_ret ?_))
    obtain ⟨ha, hae⟩ : _ ∧ _ := by first | exact Lru.run1 (c := c) (l := l) (by assumption) | exact Lru.run2 (c := c) (l := l) (by assumption) (by assumption) | (obtain ⟨h1, h2⟩ := Lru.run3 (c := c) (l := l) (by assumption) (by assumption); rw [hI.done (by omega)] at h1; exact ⟨h1, h2⟩)
    have hr0 : (cc.room : Int) = ((Lru.run c l).1).room := by
     simp only [ha, hae, Lru.zero]
    have hr1 : (cc.keys : List Int) = ((Lru.run c l).1).keys := by
     simp only [ha, hae, Lru.zero]
    have hr2 : (hits : Int) = ((Lru.run c l).2) := by
     simp only [ha, hae, Lru.zero]
    have hr3 : (0 : Int) = (Lru.runErr c l) := by
     simp only [ha, hae, Lru.zero]
    refine q_endM (p := (acc_0, ccc_0)) Scc_0 (rt3 rfl (r_cell (i := 2) rfl rfl sh74 rfl) (r_tmp rfl) (r_tmp rfl)) (i := 4) rfl ?_ ?_ ?_
    ·exact (by have hcc := congr (congr (congr (congrArg (fun (y0 : Int) (y1 : List Int) (y2 : Int) (y3 : Int) => (.tuple #[.agg #[.int .i64 y0, .slice acc_0 y1.length ccc_0], .int .i64 y2, .int .i64 y3] : Value)) hr0) hr1) hr2) hr3; exact hcc)
    ·exact fun w hw => hw.above (i := 4) (j := 1) (by decide) rfl rfl
    ·intro w hw; exact Eq.mp (congrArg (fun y => SlO tInt _ w acc_0 ccc_0 y) hr1) ((hw.at (i := 1) rfl).here)
 ·simp only [beq_eq_false_iff_ne, ne_eq] at hc3
  refine c_skip (q_then (c_seq (c_seq (c_region ?_))))
  refine o_mv rfl rfl ?_
  refine o_p (p_ne rfl rfl) ?_
  refine o_nil (q_then ?_)
  refine c_cond rfl (fun hc17 => ?_) (fun hc17 => ?_)
  ·simp only [bne_iff_ne, ne_eq] at hc17
   refine c_seq (c_region ?_)
   refine o_p (p_build (cells := [Vi 0, .slice none 0 0]) fp74 ze74 rfl rfl) ?_
   refine o_mv rfl rfl ?_
   refine o_storeN (i := 0) (vs := [Vi 0, .slice none 0 0]) (cs' := [Vi 0, .slice none 0 0]) rfl rfl rfl sz74 rfl rfl rfl rfl ?_
   refine o_as rfl rfl ?_
   refine o_as rfl rfl ?_
   refine o_nil (q_then (c_ret ?_))
   refine q_then_ret ?_
   obtain ⟨ha, hae⟩ : _ ∧ _ := by first | exact Lru.run1 (c := c) (l := l) (by assumption) | exact Lru.run2 (c := c) (l := l) (by assumption) (by assumption) | (obtain ⟨h1, h2⟩ := Lru.run3 (c := c) (l := l) (by assumption) (by assumption); rw [hI.done (by omega)] at h1; exact ⟨h1, h2⟩)
   have hr0 : (0 : Int) = ((Lru.run c l).1).room := by
    simp only [ha, hae, Lru.zero]
   have hr1 : ([] : List Int) = ((Lru.run c l).1).keys := by
    simp only [ha, hae, Lru.zero]
   have hr2 : (0 : Int) = ((Lru.run c l).2) := by
    simp only [ha, hae, Lru.zero]
   have hr3 : ((Lru.check c) : Int) = (Lru.runErr c l) := by
    simp only [ha, hae, Lru.zero]
   refine q_endM (p := (none, 0)) (fun _ => False) (rt3 rfl (r_cell (i := 0) rfl rfl sh74 rfl) (r_tmp rfl) (r_tmp rfl)) (i := 2) rfl ?_ ?_ ?_
   ·exact (by have hcc := congr (congr (congr (congrArg (fun (y0 : Int) (y1 : List Int) (y2 : Int) (y3 : Int) => (.tuple #[.agg #[.int .i64 y0, .slice none y1.length 0], .int .i64 y2, .int .i64 y3] : Value)) hr0) hr1) hr2) hr3; exact hcc)
   ·intro w hw b hb; exact hb.elim
   ·intro w hw; exact Eq.mp (congrArg (fun y => SlO tInt _ w none 0 y) hr1) (SlO.nil tInt w)
  ·simp only [bne_eq_false_iff_eq] at hc17
   exfalso; first | contradiction | omega | simp_all
end Go.Proofs.Ythecfjipaepcgaa

/- The walks, printed by a program from the translation and a specification. -/
namespace Go.Proofs.Ythecfjipaepcgaa
open Go.Sx Go.RowKit
set_option maxHeartbeats 8000000 in
set_option maxRecDepth 100000 in
theorem tsame_ok (a : List Int) (aa : Option Addr) (ca : Nat) (b : List Int) (ab : Option Addr) (cb : Nat) : Fn0 Try.prog 52 [.slice aa a.length ca, .slice ab b.length cb] (fun w => Rd tInt w aa ca a ∧ Rd tInt w ab cb b) (.bool (Ref.sameInts a b)) := by
 refine fn0 (nt := 26) (F0 := [(0, .slice aa a.length ca), (1, .slice ab b.length cb)]) Try.func52 rfl Try.ntmps52 rfl rfl (fun w0 hpre => ?_)
 obtain ⟨ha, hb⟩ := hpre
 have hlha := ha.2.1
 have hlhb := hb.2.1
 refine c_seq (c_region ?_)
 refine o_as rfl rfl ?_
 refine o_nil (q_then (c_seq (c_seq (c_region ?_))))
 refine o_mv rfl rfl ?_
 refine o_p (p_len_slice rfl rfl Try.underlying45) ?_
 refine o_mv rfl rfl ?_
 refine o_p (p_len_slice rfl rfl Try.underlying45) ?_
 refine o_p (p_ne rfl rfl) ?_
 refine o_nil (q_then ?_)
 refine c_cond rfl (fun hc1 => ?_) (fun hc1 => ?_)
 ·simp only [bne_iff_ne, ne_eq] at hc1
  refine c_seq (c_region ?_)
  refine o_as rfl rfl ?_
  refine o_nil (q_then (c_ret ?_))
  refine q_then_ret ?_
  have hr0 : (false : Bool) = (Ref.sameInts a b) := by
   simp only [Ref.sameInts]
   grind [List.ext_getElem]
  refine q_end0 (v := .bool false) (rt1 rfl (r_tmp rfl)) (i := 0) rfl ?_
  exact (by have hcc := congrArg (fun (y0 : Bool) => (.bool y0 : Value)) hr0; exact hcc)
 ·simp only [bne_eq_false_iff_eq] at hc1
  refine c_skip (q_then (c_seq (c_seq (c_region ?_))))
  refine o_as rfl rfl ?_
  refine o_nil (q_then (c_block ?_))
  refine c_loop (St := Nat)
   (fun i => [(0, .slice aa a.length ca), (1, .slice ab b.length cb), (5, Vi (i : Int))])
   (fun i => [base w0])
   (fun i => i ≤ a.length ∧ ∀ j (h1 : j < a.length) (h2 : j < b.length), j < i → a[j] = b[j])
   (fun i => a.length - i)
   0 ?_ (sr (sr (sr (Sub.nil _)))) (fun _ hw => hw) ?_
  ·exact ⟨Nat.zero_le _, fun j _ _ h => absurd h (by omega)⟩
  rintro i hI K hK2
  obtain ⟨hi, hinv⟩ := hI
  show SC _ _ Try.prog 26 w0 _ _ [(0, .slice aa a.length ca), (1, .slice ab b.length cb), (5, Vi (i : Int))] [base w0]
  refine c_seq (c_seq (c_region ?_))
  refine o_mv rfl rfl ?_
  refine o_mv rfl rfl ?_
  refine o_p (p_len_slice rfl rfl Try.underlying45) ?_
  refine o_p (p_lt rfl rfl) ?_
  refine o_nil (q_then ?_)
  refine c_cond rfl (fun hc3 => ?_) (fun hc3 => ?_)
  ·simp only [decide_eq_true_eq] at hc3
   refine c_skip (q_then (c_seq (c_block (c_seq ?_))))
   refine c_draw hmix (by kernel_rfl) ?_
   refine w_mv rfl rfl ?_
   refine w_mv rfl rfl ?_
   refine w_p (p_indexAddr (L := a) (T := tInt) (i := (i : Int)) rfl rfl (rd_base (i := 0) rfl ha) Try.underlying45 sz3 (by omega) (by omega)) ?_
   refine w_p (p_loadE1 (i := i) (T := tInt) (L := a) (v := Vi (a[i])) rfl (rd_base (i := 0) rfl ha) (by first | assumption | omega) sh3 rfl) ?_
   refine w_mv rfl rfl ?_
   refine w_mv rfl rfl ?_
   refine w_p (p_indexAddr (L := b) (T := tInt) (i := (i : Int)) rfl rfl (rd_base (i := 0) rfl hb) Try.underlying45 sz3 (by omega) (by omega)) ?_
   refine w_p (p_loadE1 (i := i) (T := tInt) (L := b) (v := Vi (b[i])) rfl (rd_base (i := 0) rfl hb) (by first | assumption | omega) sh3 rfl) ?_
   refine w_p (p_ne rfl rfl) ?_
   refine w_nil (q_then ?_)
   refine c_cond rfl (fun hc4 => ?_) (fun hc4 => ?_)
   ·simp only [bne_iff_ne, ne_eq] at hc4
    refine c_seq (c_region ?_)
    refine o_as rfl rfl ?_
    refine o_nil (q_then (c_ret ?_))
    refine q_block_ret (q_then_ret (q_then_ret (q_block_ret (q_then_ret ?_))))
    have hr0 : (false : Bool) = (Ref.sameInts a b) := by
     simp only [Ref.sameInts]
     grind [List.ext_getElem]
    refine q_end0 (v := .bool false) (rt1 rfl (r_tmp rfl)) (i := 0) rfl ?_
    exact (by have hcc := congrArg (fun (y0 : Bool) => (.bool y0 : Value)) hr0; exact hcc)
   ·simp only [bne_eq_false_iff_eq] at hc4
    refine c_skip ?_
    refine q_block_normal (q_then ?_)
    refine c_region ?_
    refine o_mv rfl rfl ?_
    refine o_p (p_addb rfl rfl (by omega)) ?_
    refine o_as rfl rfl ?_
    refine o_nil ?_
    refine q_round hK2 (i + 1) ?_ ?_ ?_ ?_
    ·clear hK2
     refine ⟨by omega, ?_⟩
     grind
    ·(try dsimp only); omega
    ·exact sr (sr (sr (Sub.nil _)))
    ·exact pk [0]
  ·simp only [decide_eq_false_iff_not, Int.not_lt] at hc3
   refine c_exit ?_
   refine q_then_exit (q_then_exit (q_block_exit (q_then ?_)))
   refine c_seq (c_region ?_)
   refine o_as rfl rfl ?_
   refine o_nil (q_then (c_ret ?_))
   have hr0 : (true : Bool) = (Ref.sameInts a b) := by
    simp only [Ref.sameInts]
    grind [List.ext_getElem]
   refine q_end0 (v := .bool true) (rt1 rfl (r_tmp rfl)) (i := 0) rfl ?_
   exact (by have hcc := congrArg (fun (y0 : Bool) => (.bool y0 : Value)) hr0; exact hcc)

set_option maxHeartbeats 8000000 in
set_option maxRecDepth 100000 in
theorem tbegun_ok  : Fn0 Try.prog 50 [] (fun _ => True) (.bool true) := by
 refine fn0 (nt := 23) (F0 := []) Try.func50 rfl Try.ntmps50 rfl rfl (fun w0 hpre => ?_)
 refine c_seq (c_region ?_)
 refine o_as rfl rfl ?_
 refine o_nil (q_then (c_seq (c_region ?_)))
 refine o_p (p_build (cells := [Vi 2, .slice none 0 0]) fp74 ze74 rfl rfl) ?_
 refine o_buildSlice (m := 4) (T := tInt) (L := [1, 2, 1, 3]) (vs := [Vi 1, Vi 2, Vi 1, Vi 3]) rfl rfl rfl rfl Try.underlying45 sz3 (by decide) ze3 rfl (by decide) rfl (fun S1 a2 => ?_)
 refine o_callM rfl (lrun_ok (⟨2, []⟩ : DCache) none 0 ([1, 2, 1, 3]) a2 ([1, 2, 1, 3].length)) hf49 (fun w hw => ⟨rd_nil w hw, (rd_own (i := 0) rfl) w hw⟩) rfl (fun _ _ _ _ ha hA => SlO.agree ha hA) ?_
 rintro ⟨a6, c7⟩ S4
 refine o_know (fun w hw => own_len (i := 0) (T := tInt) hw rfl) (fun hlr8 => ?_)
 refine o_mv rfl rfl ?_
 refine o_ex rfl rfl rfl ?_
 refine o_ex rfl rfl rfl ?_
 refine o_ex rfl rfl rfl ?_
 refine o_alloc ze74 rfl (fun B9 => ?_)
 refine o_storeN (i := 0) (vs := [Vi (((Lru.run (⟨2, []⟩ : DCache) ([1, 2, 1, 3])).1).room), .slice a6 (((Lru.run (⟨2, []⟩ : DCache) ([1, 2, 1, 3])).1).keys).length c7]) (cs' := [Vi (((Lru.run (⟨2, []⟩ : DCache) ([1, 2, 1, 3])).1).room), .slice a6 (((Lru.run (⟨2, []⟩ : DCache) ([1, 2, 1, 3])).1).keys).length c7]) rfl rfl rfl sz74 rfl rfl rfl rfl ?_
 refine o_as rfl rfl ?_
 refine o_as rfl rfl ?_
 refine o_nil (q_then (c_seq (c_region ?_)))
 refine o_mv rfl rfl ?_
 refine o_p (p_eq rfl rfl) ?_
 refine o_mv rfl rfl ?_
 refine o_and (p := 16) 3 (((Lru.run (⟨2, []⟩ : DCache) ([1, 2, 1, 3])).2) == 1) ?_ ?_ ?_
 ·intro hb10 hk
  simp only [beq_iff_eq] at hb10
  refine o_unguard 13 rfl rfl ?_
  refine o_mv rfl rfl ?_
  refine o_unguard 13 rfl rfl ?_
  refine o_p (p_eq rfl rfl) ?_
  refine o_pt rfl rfl rfl ?_
  exact o_sub (sr (Sub.skip rfl (Sub.skip rfl (Sub.skip rfl (Sub.skip rfl (Sub.refl _)))))) hk
 ·intro hb10 hk
  refine o_guard_no rfl 13 rfl rfl rfl rfl rfl ?_
  refine o_guard_no rfl 13 rfl rfl rfl rfl rfl ?_
  refine o_pf rfl rfl rfl ?_
  exact o_sub (sr (Sub.skip rfl (Sub.skip rfl (Sub.skip rfl (Sub.skip rfl (Sub.refl _)))))) hk
 refine o_mv rfl rfl ?_
 refine o_and (p := 22) 5 (Ref.sameInts (((Lru.run (⟨2, []⟩ : DCache) ([1, 2, 1, 3])).1).keys) ([3, 1])) ?_ ?_ ?_
 ·intro hb11 hk
  simp only [Bool.and_eq_true, beq_iff_eq] at hb11
  refine o_unguard 17 rfl rfl ?_
  refine o_p (p_fieldAddr (j' := 1) rfl fo74_1 rfl) ?_
  refine o_unguard 17 rfl rfl ?_
  refine o_p (p_load (i := 0) (v := .slice a6 (((Lru.run (⟨2, []⟩ : DCache) ([1, 2, 1, 3])).1).keys).length c7) rfl rfl sh45 rfl) ?_
  refine o_unguard 17 rfl rfl ?_
  refine o_buildSlice (m := 2) (T := tInt) (L := [3, 1]) (vs := [Vi 3, Vi 1]) rfl rfl rfl rfl Try.underlying45 sz3 (by decide) ze3 rfl (by decide) rfl (fun S12 a13 => ?_)
  refine o_unguard 17 rfl rfl ?_
  refine o_call0 (v := .bool (Ref.sameInts (((Lru.run (⟨2, []⟩ : DCache) ([1, 2, 1, 3])).1).keys) ([3, 1]))) rfl (tsame_ok (((Lru.run (⟨2, []⟩ : DCache) ([1, 2, 1, 3])).1).keys) a6 c7 ([3, 1]) a13 ([3, 1].length)) hf52 (fun w hw => ⟨(rd_own (i := 2) rfl) w hw, (rd_own (i := 0) rfl) w hw⟩) rfl ?_
  refine o_pt rfl rfl rfl ?_
  exact o_sub (sr (Sub.skip rfl (Sub.skip rfl (Sub.skip rfl (Sub.skip rfl (Sub.skip rfl (Sub.skip rfl (Sub.refl _)))))))) (o_drop (lz (lj (lj (lj (lj (ln)))))) hk)
 ·intro hb11 hk
  refine o_guard_no rfl 17 rfl rfl rfl rfl rfl ?_
  refine o_guard_no rfl 17 rfl rfl rfl rfl rfl ?_
  refine o_guard_no rfl 17 rfl rfl rfl rfl rfl ?_
  refine o_guard_no rfl 17 rfl rfl rfl rfl rfl ?_
  refine o_pf rfl rfl rfl ?_
  exact o_sub (sr (Sub.skip rfl (Sub.skip rfl (Sub.skip rfl (Sub.skip rfl (Sub.skip rfl (Sub.skip rfl (Sub.refl _)))))))) hk
 refine o_as rfl rfl ?_
 refine o_nil (q_then (c_ret ?_))
 have hr0 : (((((Lru.runErr (⟨2, []⟩ : DCache) ([1, 2, 1, 3])) == 0) && (((Lru.run (⟨2, []⟩ : DCache) ([1, 2, 1, 3])).2) == 1)) && (Ref.sameInts (((Lru.run (⟨2, []⟩ : DCache) ([1, 2, 1, 3])).1).keys) ([3, 1]))) : Bool) = true := by
  first | rfl | decide +kernel
 refine q_end0 (v := .bool ((((Lru.runErr (⟨2, []⟩ : DCache) ([1, 2, 1, 3])) == 0) && (((Lru.run (⟨2, []⟩ : DCache) ([1, 2, 1, 3])).2) == 1)) && (Ref.sameInts (((Lru.run (⟨2, []⟩ : DCache) ([1, 2, 1, 3])).1).keys) ([3, 1])))) (rt1 rfl (r_tmp rfl)) (i := 3) rfl ?_
 exact (by have hcc := congrArg (fun (y0 : Bool) => (.bool y0 : Value)) hr0; exact hcc)
end Go.Proofs.Ythecfjipaepcgaa

/- The walks, printed by a program from the translation and a specification. -/
namespace Go.Proofs.Ythecfjipaepcgaa
open Go.Sx Go.RowKit
set_option maxHeartbeats 8000000 in
set_option maxRecDepth 100000 in
theorem topShards_ok (l : List DShard) (al : Option Addr) (cl : Nat) (points : List DPoint) (apoints : Option Addr) (cpoints : Nat) (keys : List ByteArray) (akeys : Option Addr) (ckeys : Nat) (room : Int) : Fn0 Try.prog 14 [.slice al l.length cl, .slice apoints points.length cpoints, .slice akeys keys.length ckeys, Vi room] (fun w => Rd tShard w al cl l ∧ Rd tPoint w apoints cpoints points ∧ Rd tStr w akeys ckeys keys) (.bool true) := by
 refine fn0 (nt := 192) (F0 := [(0, .slice al l.length cl), (1, .slice apoints points.length cpoints), (2, .slice akeys keys.length ckeys), (3, Vi room)]) Try.func14 rfl Try.ntmps14 rfl rfl (fun w0 hpre => ?_)
 obtain ⟨hl, hpoints, hkeys⟩ := hpre
 have hlhl := hl.2.1
 have hlhpoints := hpoints.2.1
 have hlhkeys := hkeys.2.1
 have hks : (keys.take (min (keys.length : Int) 40).toNat).length ≤ 40 := by simp only [List.length_take]; omega
 refine c_seq (c_region ?_)
 refine o_as rfl rfl ?_
 refine o_nil (q_then (c_seq (c_seq (c_region ?_))))
 refine o_call0 (v := .bool true) rfl (tbegun_ok ) hf50 (fun _ _ => trivial) rfl ?_
 refine o_p (p_not (b := true) rfl) ?_
 refine o_nil (q_then ?_)
 refine c_false rfl ?_
 refine c_skip (q_then (c_seq (c_region ?_)))
 refine o_mv rfl rfl ?_
 refine o_mv rfl rfl ?_
 refine o_p (p_len_slice rfl rfl Try.underlying44) ?_
 refine o_p (p_min (p := (keys.length : Int)) (q := 40) rfl rfl) ?_
 refine o_p (p_sliceH (L := keys) (T := tStr) (h := (min (keys.length : Int) 40)) rfl rfl Try.underlying44 sz9 (by omega) (by omega) (rd_base (i := 0) rfl hkeys)) ?_
 refine o_as rfl rfl ?_
 refine o_nil (q_then (c_seq (c_region ?_)))
 refine o_allocN tInt (m := 20) ze79 rfl rfl rfl (fun B1 => ?_)
 refine o_nil (q_then (c_seq (c_region ?_)))
 refine o_allocC (m := 20) ze80 rfl rfl rfl (fun B3 => ?_)
 refine o_nil (q_then (c_seq (c_region ?_)))
 refine o_as rfl rfl ?_
 refine o_nil (q_then (c_seq (c_seq (c_region ?_))))
 refine o_as rfl rfl ?_
 refine o_nil (q_then (c_block ?_))
 refine c_loop (St := Int × Nat × List (List Int) × NC × (Nat → Prop) × List DCache × NC × (Nat → Prop))
  (fun ⟨hits, i, prt, cprt, Sprt, ow, cow, Sow⟩ => [(0, .slice al l.length cl), (1, .slice apoints points.length cpoints), (2, .slice akeys (keys.take ((min (keys.length : Int) 40).toNat)).length ckeys), (3, Vi room), (9, .pointer (some ⟨B1, 0, none⟩)), (10, .pointer (some ⟨B3, 0, none⟩)), (11, Vi hits), (12, Vi (i : Int))])
  (fun ⟨hits, i, prt, cprt, Sprt, ow, cow, Sow⟩ => [ownC Sow (some ⟨B3, 0, none⟩) cow ow, ownN tInt Sprt (some ⟨B1, 0, none⟩) cprt prt, base w0])
  (fun ⟨hits, i, prt, cprt, Sprt, ow, cow, Sow⟩ => Ys.TI room prt ow hits i)
  (fun ⟨hits, i, prt, cprt, Sprt, ow, cow, Sow⟩ => (keys.take (min (keys.length : Int) 40).toNat).length - i)
  (0, 0, (List.replicate 20 ([] : List Int)), (ncz 20), (fun b => b = B1), (List.replicate 20 (⟨0, []⟩ : DCache)), (ncz 20), (fun b => b = B3)) ?_ (sr (sr (sr (sr (sr (sr (sr (sr (Sub.nil _))))))))) (fun _ hw => hw) ?_
 ·exact Ys.TI.start room
 rintro ⟨hits, i, prt, cprt, Sprt, ow, cow, Sow⟩ hT K hK5
 have hpl := hT.pl
 have hdl := hT.dl
 have hbd := hT.bd
 show SC _ _ Try.prog 192 w0 _ _ [(0, .slice al l.length cl), (1, .slice apoints points.length cpoints), (2, .slice akeys (keys.take ((min (keys.length : Int) 40).toNat)).length ckeys), (3, Vi room), (9, .pointer (some ⟨B1, 0, none⟩)), (10, .pointer (some ⟨B3, 0, none⟩)), (11, Vi hits), (12, Vi (i : Int))] [ownC Sow (some ⟨B3, 0, none⟩) cow ow, ownN tInt Sprt (some ⟨B1, 0, none⟩) cprt prt, base w0]
 refine c_seq (c_seq (c_region ?_))
 refine o_mv rfl rfl ?_
 refine o_mv rfl rfl ?_
 refine o_p (p_len_slice rfl rfl Try.underlying44) ?_
 refine o_p (p_lt rfl rfl) ?_
 refine o_nil (q_then ?_)
 refine c_cond rfl (fun hc6 => ?_) (fun hc6 => ?_)
 ·simp only [decide_eq_true_eq] at hc6
  refine c_skip (q_then (c_seq (c_block (c_seq (c_region ?_)))))
  refine o_mv rfl rfl ?_
  refine o_mv rfl rfl ?_
  refine o_mv rfl rfl ?_
  refine o_p (p_indexAddr (L := (keys.take ((min (keys.length : Int) 40).toNat))) (T := tStr) (i := (i : Int)) rfl rfl (rd_takeC (hi := (min (keys.length : Int) 40).toNat) (rd_base (i := 2) rfl hkeys) (by omega)) Try.underlying44 sz9 (by omega) (by omega)) ?_
  refine o_p (p_loadE1 (i := i) (T := tStr) (L := (keys.take ((min (keys.length : Int) 40).toNat))) (v := .string ((keys.take ((min (keys.length : Int) 40).toNat)).getD i default)) rfl (rd_takeC (hi := (min (keys.length : Int) 40).toNat) (rd_base (i := 2) rfl hkeys) (by omega)) (by first | assumption | omega) sh9 (congrArg tStr.enc (getd_at (by first | assumption | omega) default))) ?_
  refine o_call0 (v := .tuple #[Vi (Shd.owner l ((keys.take ((min (keys.length : Int) 40).toNat)).getD i default)), Vi (Shd.ownErr l ((keys.take ((min (keys.length : Int) 40).toNat)).getD i default))]) rfl (sowner_ok l al cl ((keys.take ((min (keys.length : Int) 40).toNat)).getD i default)) hf33 (fun w hw => (rd_base (i := 2) rfl hl) w hw) rfl ?_
  refine o_mv rfl rfl ?_
  refine o_ex rfl rfl rfl ?_
  refine o_ex rfl rfl rfl ?_
  refine o_as rfl rfl ?_
  refine o_as rfl rfl ?_
  refine o_nil (q_then (c_seq (c_seq (c_region ?_))))
  refine o_mv rfl rfl ?_
  refine o_p (p_ne rfl rfl) ?_
  refine o_nil (q_then ?_)
  refine c_cond rfl (fun hc7 => ?_) (fun hc7 => ?_)
  ·simp only [bne_iff_ne, ne_eq] at hc7
   refine c_seq (c_region ?_)
   refine o_as rfl rfl ?_
   refine o_nil (q_then (c_ret ?_))
   refine q_then_ret (q_block_ret (q_then_ret (q_then_ret (q_block_ret (q_then_ret ?_)))))
   refine q_end0 (v := .bool true) (rt1 rfl (r_tmp rfl)) (i := 2) rfl ?_
   exact rfl
  ·simp only [bne_eq_false_iff_eq] at hc7
   have hoe := hc7
   have how := Shd.owner_lt hc7
   have h20 := (Shd.own_ok hc7).1.len
   have hrl := hT.small (o := (Shd.owner l ((keys.take (min (keys.length : Int) 40).toNat).getD i default)).toNat) (by omega)
   refine c_skip (q_then (c_seq (c_seq (c_region ?_))))
   refine o_mv rfl rfl ?_
   refine o_p (p_lt rfl rfl) ?_
   refine o_mv rfl rfl ?_
   refine o_or (p := 60) 3 (decide (20 ≤ (Shd.owner l ((keys.take ((min (keys.length : Int) 40).toNat)).getD i default)))) ?_ ?_ ?_
   ·intro hb8 hk
    simp only [decide_eq_false_iff_not, Int.not_lt] at hb8
    refine o_unguard 57 rfl rfl ?_
    refine o_mv rfl rfl ?_
    refine o_unguard 57 rfl rfl ?_
    refine o_p (p_ge rfl rfl) ?_
    refine o_pf rfl rfl rfl ?_
    exact o_sub (sr (Sub.skip rfl (Sub.skip rfl (Sub.skip rfl (Sub.skip rfl (Sub.refl _)))))) hk
   ·intro hb8 hk
    refine o_guard_no rfl 57 rfl rfl rfl rfl rfl ?_
    refine o_guard_no rfl 57 rfl rfl rfl rfl rfl ?_
    refine o_pt rfl rfl rfl ?_
    exact o_sub (sr (Sub.skip rfl (Sub.skip rfl (Sub.skip rfl (Sub.skip rfl (Sub.refl _)))))) hk
   refine o_nil (q_then ?_)
   refine c_cond rfl (fun hc9 => ?_) (fun hc9 => ?_)
   ·simp only [Bool.or_eq_true, decide_eq_true_eq] at hc9
    exfalso; omega
   ·simp only [Bool.or_eq_false_iff, decide_eq_false_iff_not, Int.not_lt, Int.not_le] at hc9
    refine c_skip (q_then (c_seq (c_region ?_)))
    refine o_mv rfl rfl ?_
    refine o_as rfl rfl ?_
    refine o_nil (q_then (c_seq (c_seq (c_region ?_))))
    refine o_mv rfl rfl ?_
    refine o_p (p_subb rfl rfl (by omega)) ?_
    refine o_as rfl rfl ?_
    refine o_nil (q_then (c_block ?_))
    refine c_loop (St := Int × Int)
     (fun ⟨fs, kk⟩ => [(0, .slice al l.length cl), (1, .slice apoints points.length cpoints), (2, .slice akeys (keys.take ((min (keys.length : Int) 40).toNat)).length ckeys), (3, Vi room), (9, .pointer (some ⟨B1, 0, none⟩)), (10, .pointer (some ⟨B3, 0, none⟩)), (11, Vi hits), (12, Vi (i : Int)), (13, Vi (Shd.owner l ((keys.take ((min (keys.length : Int) 40).toNat)).getD i default))), (15, Vi fs), (16, Vi kk)])
     (fun ⟨fs, kk⟩ => [ownC Sow (some ⟨B3, 0, none⟩) cow ow, ownN tInt Sprt (some ⟨B1, 0, none⟩) cprt prt, base w0])
     (fun ⟨fs, kk⟩ => 0 ≤ fs ∧ fs ≤ (i : Int) ∧ -1 ≤ kk ∧ kk < (i : Int))
     (fun ⟨fs, kk⟩ => (kk + 1).toNat)
     ((i : Int), ((i : Int) - 1)) ?_ (sr (sr (sr (sr (sr (sr (sr (sr (sr (sr (sr (Sub.nil _)))))))))))) (fun _ hw => hw) ?_
    ·exact ⟨by omega, by omega, by omega, by omega⟩
    rintro ⟨fs, kk⟩ hF K hK10
    show SC _ _ Try.prog 192 w0 _ _ [(0, .slice al l.length cl), (1, .slice apoints points.length cpoints), (2, .slice akeys (keys.take ((min (keys.length : Int) 40).toNat)).length ckeys), (3, Vi room), (9, .pointer (some ⟨B1, 0, none⟩)), (10, .pointer (some ⟨B3, 0, none⟩)), (11, Vi hits), (12, Vi (i : Int)), (13, Vi (Shd.owner l ((keys.take ((min (keys.length : Int) 40).toNat)).getD i default))), (15, Vi fs), (16, Vi kk)] [ownC Sow (some ⟨B3, 0, none⟩) cow ow, ownN tInt Sprt (some ⟨B1, 0, none⟩) cprt prt, base w0]
    refine c_seq (c_seq (c_region ?_))
    refine o_mv rfl rfl ?_
    refine o_p (p_ge rfl rfl) ?_
    refine o_nil (q_then ?_)
    refine c_cond rfl (fun hc11 => ?_) (fun hc11 => ?_)
    ·simp only [decide_eq_true_eq] at hc11
     refine c_skip (q_then (c_seq (c_block (c_seq ?_))))
     refine c_draw hmix (by kernel_rfl) ?_
     refine w_mv rfl rfl ?_
     refine w_mv rfl rfl ?_
     refine w_p (p_indexAddr (L := (keys.take ((min (keys.length : Int) 40).toNat))) (T := tStr) (i := kk) rfl rfl (rd_takeC (hi := (min (keys.length : Int) 40).toNat) (rd_base (i := 2) rfl hkeys) (by omega)) Try.underlying44 sz9 (by omega) (by omega)) ?_
     refine w_p (p_loadE1 (i := kk.toNat) (T := tStr) (L := (keys.take ((min (keys.length : Int) 40).toNat))) (v := .string ((keys.take ((min (keys.length : Int) 40).toNat)).getD kk.toNat default)) rfl (rd_takeC (hi := (min (keys.length : Int) 40).toNat) (rd_base (i := 2) rfl hkeys) (by omega)) (by first | assumption | omega) sh9 (congrArg tStr.enc (getd_at (by first | assumption | omega) default))) ?_
     refine w_mv rfl rfl ?_
     refine w_mv rfl rfl ?_
     refine w_p (p_indexAddr (L := (keys.take ((min (keys.length : Int) 40).toNat))) (T := tStr) (i := (i : Int)) rfl rfl (rd_takeC (hi := (min (keys.length : Int) 40).toNat) (rd_base (i := 2) rfl hkeys) (by omega)) Try.underlying44 sz9 (by omega) (by omega)) ?_
     refine w_p (p_loadE1 (i := i) (T := tStr) (L := (keys.take ((min (keys.length : Int) 40).toNat))) (v := .string ((keys.take ((min (keys.length : Int) 40).toNat)).getD i default)) rfl (rd_takeC (hi := (min (keys.length : Int) 40).toNat) (rd_base (i := 2) rfl hkeys) (by omega)) (by first | assumption | omega) sh9 (congrArg tStr.enc (getd_at (by first | assumption | omega) default))) ?_
     refine w_p (p_eqStr (s := ((keys.take ((min (keys.length : Int) 40).toNat)).getD kk.toNat default)) (t := ((keys.take ((min (keys.length : Int) 40).toNat)).getD i default)) rfl rfl) ?_
     refine w_nil (q_then ?_)
     refine c_cond rfl (fun hc12 => ?_) (fun hc12 => ?_)
     ·simp only [decide_eq_true_eq] at hc12
      refine c_region ?_
      refine o_mv rfl rfl ?_
      refine o_as rfl rfl ?_
      refine o_nil ?_
      refine q_block_normal (q_then ?_)
      refine c_region ?_
      refine o_mv rfl rfl ?_
      refine o_p (p_subb rfl rfl (by omega)) ?_
      refine o_as rfl rfl ?_
      refine o_nil ?_
      refine q_round hK10 (kk, (kk - 1)) ?_ ?_ ?_ ?_
      ·clear hK10
       (try dsimp only); omega
      ·(try dsimp only); omega
      ·exact sr (sr (sr (sr (sr (sr (sr (sr (sr (sr (sr (Sub.nil _)))))))))))
      ·exact pk [0, 1, 2]
     ·simp only [decide_eq_false_iff_not] at hc12
      refine c_skip ?_
      refine q_block_normal (q_then ?_)
      refine c_region ?_
      refine o_mv rfl rfl ?_
      refine o_p (p_subb rfl rfl (by omega)) ?_
      refine o_as rfl rfl ?_
      refine o_nil ?_
      refine q_round hK10 (fs, (kk - 1)) ?_ ?_ ?_ ?_
      ·clear hK10
       (try dsimp only); omega
      ·(try dsimp only); omega
      ·exact sr (sr (sr (sr (sr (sr (sr (sr (sr (sr (sr (Sub.nil _)))))))))))
      ·exact pk [0, 1, 2]
    ·simp only [decide_eq_false_iff_not, Int.not_le] at hc11
     refine c_exit ?_
     refine q_then_exit (q_then_exit (q_block_exit (q_then ?_)))
     refine c_seq (c_region ?_)
     refine o_mv rfl rfl ?_
     refine o_mv rfl rfl ?_
     refine o_p (p_indexAddrV (i := (Shd.owner l ((keys.take ((min (keys.length : Int) 40).toNat)).getD i default))) (N := 20) rfl rfl Try.underlying79 sz45 (by first | omega | decide) (by first | omega | decide)) ?_
     refine o_p (p_loadN (T := tInt) (c := cprt) (LL := prt) (i := (Shd.owner l ((keys.take ((min (keys.length : Int) 40).toNat)).getD i default)).toNat) rfl (rd_ownN (i := 1) rfl) (by first | assumption | omega | decide) sh45) ?_
     refine o_mv rfl rfl ?_
     refine o_buildSlice (m := 1) (T := tInt) (L := [fs]) (vs := [Vi fs]) rfl rfl rfl rfl Try.underlying45 sz3 (by decide) ze3 rfl (by decide) rfl (fun S13 a14 => ?_)
     refine o_pick (H' := [ownN tInt Sprt (some ⟨B1, 0, none⟩) cprt prt, own tInt S13 a14 ([fs].length) ([fs]), ownC Sow (some ⟨B3, 0, none⟩) cow ow, base w0]) [2, 0, 1, 3] (by decide) rfl ?_
     refine o_outN (k := (Shd.owner l ((keys.take ((min (keys.length : Int) 40).toNat)).getD i default)).toNat) (by first | assumption | omega) (fun S16 S17 => ?_)
     refine o_append (i := 0) (L := (prt.getD ((Shd.owner l ((keys.take ((min (keys.length : Int) 40).toNat)).getD i default)).toNat) [])) (M := [fs]) (T := tInt) rfl rfl rfl (rd_own (i := 2) rfl) Try.underlying45 Try.underlying45 (by intro k h; cases h) el3 (by intro z; simp [tInt, one1]) (by decide) (by first | omega | (simp only [List.length_cons, List.length_nil]; omega) | (simp only [List.length_append, List.length_cons, List.length_nil, List.length_take, List.length_drop]; omega)) rfl (fun a19 c20 S21 => ?_)
     refine o_p (p_indexAddrV (i := (Shd.owner l ((keys.take ((min (keys.length : Int) 40).toNat)).getD i default))) (N := 20) rfl rfl Try.underlying79 sz45 (by first | omega | decide) (by first | omega | decide)) ?_
     refine o_storeRow (k := (Shd.owner l ((keys.take ((min (keys.length : Int) 40).toNat)).getD i default)).toNat) (T := tInt) (F' := [(0, .slice al l.length cl), (1, .slice apoints points.length cpoints), (2, .slice akeys (keys.take ((min (keys.length : Int) 40).toNat)).length ckeys), (3, Vi room), (9, .pointer (some ⟨B1, 0, none⟩)), (10, .pointer (some ⟨B3, 0, none⟩)), (11, Vi hits), (12, Vi (i : Int)), (13, Vi (Shd.owner l ((keys.take ((min (keys.length : Int) 40).toNat)).getD i default))), (15, Vi fs)]) rfl rfl (by first | assumption | omega | (simp only [List.length_set]; omega)) sz45 (sr (sr (sr (sr (sr (sr (sr (sr (sr (sr (Sub.nil _))))))))))) (fun S22 => ?_)
     refine o_nil (q_then (c_seq (c_region ?_)))
     refine o_mv rfl rfl ?_
     refine o_mv rfl rfl ?_
     refine o_p (p_indexAddrV (i := (Shd.owner l ((keys.take ((min (keys.length : Int) 40).toNat)).getD i default))) (N := 20) rfl rfl Try.underlying80 sz74 (by first | omega | decide) (by first | omega | decide)) ?_
     refine o_p (p_fieldAddrE rfl fo74_0) ?_
     refine o_pick (H' := [ownC Sow (some ⟨B3, 0, none⟩) cow ow, ownN tInt S22 (some ⟨B1, 0, none⟩) (cprt.put ((Shd.owner l ((keys.take ((min (keys.length : Int) 40).toNat)).getD i default)).toNat) a19 c20) (prt.set ((Shd.owner l ((keys.take ((min (keys.length : Int) 40).toNat)).getD i default)).toNat) ((prt.getD ((Shd.owner l ((keys.take ((min (keys.length : Int) 40).toNat)).getD i default)).toNat) []) ++ [fs])), own tInt S13 a14 ([fs].length) ([fs]), base w0]) [2, 0, 1, 3] (by decide) rfl ?_
     refine o_storeRoom (k := (Shd.owner l ((keys.take ((min (keys.length : Int) 40).toNat)).getD i default)).toNat) (z := room) (F' := [(0, .slice al l.length cl), (1, .slice apoints points.length cpoints), (2, .slice akeys (keys.take ((min (keys.length : Int) 40).toNat)).length ckeys), (3, Vi room), (9, .pointer (some ⟨B1, 0, none⟩)), (10, .pointer (some ⟨B3, 0, none⟩)), (11, Vi hits), (12, Vi (i : Int)), (13, Vi (Shd.owner l ((keys.take ((min (keys.length : Int) 40).toNat)).getD i default))), (15, Vi fs)]) rfl rfl (by first | omega | (simp only [List.length_set]; omega)) sz3 (sr (sr (sr (sr (sr (sr (sr (sr (sr (sr (Sub.nil _))))))))))) ?_
     refine o_nil (q_then (c_seq (c_region ?_)))
     refine o_mv rfl rfl ?_
     refine o_p (p_indexAddrV (i := (Shd.owner l ((keys.take ((min (keys.length : Int) 40).toNat)).getD i default))) (N := 20) rfl rfl Try.underlying80 sz74 (by first | omega | decide) (by first | omega | decide)) ?_
     refine o_p (p_loadC (i := 0) (k := (Shd.owner l ((keys.take ((min (keys.length : Int) 40).toNat)).getD i default)).toNat) rfl rfl (by first | omega | (simp only [List.length_set]; omega)) sh74) ?_
     refine o_mv rfl rfl ?_
     refine o_callM rfl (laccess_ok ((ow.set ((Shd.owner l ((keys.take ((min (keys.length : Int) 40).toNat)).getD i default)).toNat) (⟨room, (ow.getD ((Shd.owner l ((keys.take ((min (keys.length : Int) 40).toNat)).getD i default)).toNat) default).keys⟩ : DCache)).getD ((Shd.owner l ((keys.take ((min (keys.length : Int) 40).toNat)).getD i default)).toNat) default) (cow.ra ((Shd.owner l ((keys.take ((min (keys.length : Int) 40).toNat)).getD i default)).toNat)) (cow.rc ((Shd.owner l ((keys.take ((min (keys.length : Int) 40).toNat)).getD i default)).toNat)) fs) hf51 (fun w hw => (rd_rowC (i := 0) (k := (Shd.owner l ((keys.take ((min (keys.length : Int) 40).toNat)).getD i default)).toNat) rfl (by first | omega | (simp only [List.length_set]; omega))) w hw) rfl (fun _ _ _ _ ha hA => SlO.agree ha hA) ?_
     rintro ⟨a25, c26⟩ S23
     refine o_know (fun w hw => own_len (i := 0) (T := tInt) hw rfl) (fun hlr27 => ?_)
     refine o_mv rfl rfl ?_
     refine o_ex rfl rfl rfl ?_
     refine o_ex rfl rfl rfl ?_
     refine o_ex rfl rfl rfl ?_
     refine o_ex rfl rfl rfl ?_
     refine o_alloc ze74 rfl (fun B28 => ?_)
     refine o_storeN (i := 0) (vs := [Vi (((Lru.access ((ow.set ((Shd.owner l ((keys.take ((min (keys.length : Int) 40).toNat)).getD i default)).toNat) (⟨room, (ow.getD ((Shd.owner l ((keys.take ((min (keys.length : Int) 40).toNat)).getD i default)).toNat) default).keys⟩ : DCache)).getD ((Shd.owner l ((keys.take ((min (keys.length : Int) 40).toNat)).getD i default)).toNat) default) fs).1).room), .slice a25 (((Lru.access ((ow.set ((Shd.owner l ((keys.take ((min (keys.length : Int) 40).toNat)).getD i default)).toNat) (⟨room, (ow.getD ((Shd.owner l ((keys.take ((min (keys.length : Int) 40).toNat)).getD i default)).toNat) default).keys⟩ : DCache)).getD ((Shd.owner l ((keys.take ((min (keys.length : Int) 40).toNat)).getD i default)).toNat) default) fs).1).keys).length c26]) (cs' := [Vi (((Lru.access ((ow.set ((Shd.owner l ((keys.take ((min (keys.length : Int) 40).toNat)).getD i default)).toNat) (⟨room, (ow.getD ((Shd.owner l ((keys.take ((min (keys.length : Int) 40).toNat)).getD i default)).toNat) default).keys⟩ : DCache)).getD ((Shd.owner l ((keys.take ((min (keys.length : Int) 40).toNat)).getD i default)).toNat) default) fs).1).room), .slice a25 (((Lru.access ((ow.set ((Shd.owner l ((keys.take ((min (keys.length : Int) 40).toNat)).getD i default)).toNat) (⟨room, (ow.getD ((Shd.owner l ((keys.take ((min (keys.length : Int) 40).toNat)).getD i default)).toNat) default).keys⟩ : DCache)).getD ((Shd.owner l ((keys.take ((min (keys.length : Int) 40).toNat)).getD i default)).toNat) default) fs).1).keys).length c26]) rfl rfl rfl sz74 rfl rfl rfl rfl ?_
     refine o_as rfl rfl ?_
     refine o_as rfl rfl ?_
     refine o_as rfl rfl ?_
     refine o_nil (q_then (c_seq (c_seq (c_region ?_))))
     refine o_mv rfl rfl ?_
     refine o_p (p_ne rfl rfl) ?_
     refine o_nil (q_then ?_)
     refine c_cond rfl (fun hc29 => ?_) (fun hc29 => ?_)
     ·simp only [bne_iff_ne, ne_eq] at hc29
      refine c_seq (c_region ?_)
      refine o_as rfl rfl ?_
      refine o_nil (q_then (c_ret ?_))
      refine q_then_ret (q_block_ret (q_then_ret (q_then_ret (q_block_ret (q_then_ret ?_)))))
      refine q_end0 (v := .bool true) (rt1 rfl (r_tmp rfl)) (i := 5) rfl ?_
      exact rfl
     ·simp only [bne_eq_false_iff_eq] at hc29
      have hac := hc29
      refine c_skip (q_then (c_seq (c_region ?_)))
      refine o_mv rfl rfl ?_
      refine o_p (p_load_agg (i := 0) (vs := [Vi (((Lru.access ((ow.set ((Shd.owner l ((keys.take ((min (keys.length : Int) 40).toNat)).getD i default)).toNat) (⟨room, (ow.getD ((Shd.owner l ((keys.take ((min (keys.length : Int) 40).toNat)).getD i default)).toNat) default).keys⟩ : DCache)).getD ((Shd.owner l ((keys.take ((min (keys.length : Int) 40).toNat)).getD i default)).toNat) default) fs).1).room), .slice a25 (((Lru.access ((ow.set ((Shd.owner l ((keys.take ((min (keys.length : Int) 40).toNat)).getD i default)).toNat) (⟨room, (ow.getD ((Shd.owner l ((keys.take ((min (keys.length : Int) 40).toNat)).getD i default)).toNat) default).keys⟩ : DCache)).getD ((Shd.owner l ((keys.take ((min (keys.length : Int) 40).toNat)).getD i default)).toNat) default) fs).1).keys).length c26]) rfl rfl sh74 rfl rfl) ?_
      refine o_p (p_indexAddrV (i := (Shd.owner l ((keys.take ((min (keys.length : Int) 40).toNat)).getD i default))) (N := 20) rfl rfl Try.underlying80 sz74 (by first | omega | decide) (by first | omega | decide)) ?_
      refine o_pick (H' := [own tInt S23 a25 c26 (((Lru.access ((ow.set ((Shd.owner l ((keys.take ((min (keys.length : Int) 40).toNat)).getD i default)).toNat) (⟨room, (ow.getD ((Shd.owner l ((keys.take ((min (keys.length : Int) 40).toNat)).getD i default)).toNat) default).keys⟩ : DCache)).getD ((Shd.owner l ((keys.take ((min (keys.length : Int) 40).toNat)).getD i default)).toNat) default) fs).1).keys), ownC Sow (some ⟨B3, 0, none⟩) cow (ow.set ((Shd.owner l ((keys.take ((min (keys.length : Int) 40).toNat)).getD i default)).toNat) (⟨room, (ow.getD ((Shd.owner l ((keys.take ((min (keys.length : Int) 40).toNat)).getD i default)).toNat) default).keys⟩ : DCache)), box B28 [Vi (((Lru.access ((ow.set ((Shd.owner l ((keys.take ((min (keys.length : Int) 40).toNat)).getD i default)).toNat) (⟨room, (ow.getD ((Shd.owner l ((keys.take ((min (keys.length : Int) 40).toNat)).getD i default)).toNat) default).keys⟩ : DCache)).getD ((Shd.owner l ((keys.take ((min (keys.length : Int) 40).toNat)).getD i default)).toNat) default) fs).1).room), .slice a25 (((Lru.access ((ow.set ((Shd.owner l ((keys.take ((min (keys.length : Int) 40).toNat)).getD i default)).toNat) (⟨room, (ow.getD ((Shd.owner l ((keys.take ((min (keys.length : Int) 40).toNat)).getD i default)).toNat) default).keys⟩ : DCache)).getD ((Shd.owner l ((keys.take ((min (keys.length : Int) 40).toNat)).getD i default)).toNat) default) fs).1).keys).length c26] 74, ownN tInt S22 (some ⟨B1, 0, none⟩) (cprt.put ((Shd.owner l ((keys.take ((min (keys.length : Int) 40).toNat)).getD i default)).toNat) a19 c20) (prt.set ((Shd.owner l ((keys.take ((min (keys.length : Int) 40).toNat)).getD i default)).toNat) ((prt.getD ((Shd.owner l ((keys.take ((min (keys.length : Int) 40).toNat)).getD i default)).toNat) []) ++ [fs])), own tInt S13 a14 ([fs].length) ([fs]), base w0]) [1, 2, 0, 3, 4, 5] (by decide) rfl ?_
      refine o_storeC (k := (Shd.owner l ((keys.take ((min (keys.length : Int) 40).toNat)).getD i default)).toNat) (z := ((Lru.access ((ow.set ((Shd.owner l ((keys.take ((min (keys.length : Int) 40).toNat)).getD i default)).toNat) (⟨room, (ow.getD ((Shd.owner l ((keys.take ((min (keys.length : Int) 40).toNat)).getD i default)).toNat) default).keys⟩ : DCache)).getD ((Shd.owner l ((keys.take ((min (keys.length : Int) 40).toNat)).getD i default)).toNat) default) fs).1).room) (L := ((Lru.access ((ow.set ((Shd.owner l ((keys.take ((min (keys.length : Int) 40).toNat)).getD i default)).toNat) (⟨room, (ow.getD ((Shd.owner l ((keys.take ((min (keys.length : Int) 40).toNat)).getD i default)).toNat) default).keys⟩ : DCache)).getD ((Shd.owner l ((keys.take ((min (keys.length : Int) 40).toNat)).getD i default)).toNat) default) fs).1).keys) (F' := [(0, .slice al l.length cl), (1, .slice apoints points.length cpoints), (2, .slice akeys (keys.take ((min (keys.length : Int) 40).toNat)).length ckeys), (3, Vi room), (9, .pointer (some ⟨B1, 0, none⟩)), (10, .pointer (some ⟨B3, 0, none⟩)), (11, Vi hits), (12, Vi (i : Int)), (18, .bool ((Lru.access ((ow.set ((Shd.owner l ((keys.take ((min (keys.length : Int) 40).toNat)).getD i default)).toNat) (⟨room, (ow.getD ((Shd.owner l ((keys.take ((min (keys.length : Int) 40).toNat)).getD i default)).toNat) default).keys⟩ : DCache)).getD ((Shd.owner l ((keys.take ((min (keys.length : Int) 40).toNat)).getD i default)).toNat) default) fs).2.1))]) rfl rfl (by first | omega | (simp only [List.length_set]; omega)) sz74 (sr (sr (sr (sr (sr (sr (sr (sr (sr (Sub.nil _)))))))))) (fun S30 => ?_)
      refine o_nil (q_then (c_seq (c_region ?_)))
      refine o_mv rfl rfl ?_
      refine o_nil (q_then ?_)
      refine c_cond rfl (fun hc31 => ?_) (fun hc31 => ?_)
      ·skip
       have hhit := hc31
       refine c_region ?_
       refine o_mv rfl rfl ?_
       refine o_p (p_addb rfl rfl (by omega)) ?_
       refine o_as rfl rfl ?_
       refine o_nil ?_
       refine q_block_normal (q_then ?_)
       refine c_region ?_
       refine o_mv rfl rfl ?_
       refine o_p (p_addb rfl rfl (by omega)) ?_
       refine o_as rfl rfl ?_
       refine o_nil ?_
       refine q_round hK5 ((hits + 1), i + 1, (prt.set ((Shd.owner l ((keys.take ((min (keys.length : Int) 40).toNat)).getD i default)).toNat) ((prt.getD ((Shd.owner l ((keys.take ((min (keys.length : Int) 40).toNat)).getD i default)).toNat) []) ++ [fs])), (cprt.put ((Shd.owner l ((keys.take ((min (keys.length : Int) 40).toNat)).getD i default)).toNat) a19 c20), S22, ((ow.set ((Shd.owner l ((keys.take ((min (keys.length : Int) 40).toNat)).getD i default)).toNat) (⟨room, (ow.getD ((Shd.owner l ((keys.take ((min (keys.length : Int) 40).toNat)).getD i default)).toNat) default).keys⟩ : DCache)).set ((Shd.owner l ((keys.take ((min (keys.length : Int) 40).toNat)).getD i default)).toNat) ((Lru.access ((ow.set ((Shd.owner l ((keys.take ((min (keys.length : Int) 40).toNat)).getD i default)).toNat) (⟨room, (ow.getD ((Shd.owner l ((keys.take ((min (keys.length : Int) 40).toNat)).getD i default)).toNat) default).keys⟩ : DCache)).getD ((Shd.owner l ((keys.take ((min (keys.length : Int) 40).toNat)).getD i default)).toNat) default) fs).1)), (cow.put ((Shd.owner l ((keys.take ((min (keys.length : Int) 40).toNat)).getD i default)).toNat) a25 c26), S30) ?_ ?_ ?_ ?_
       ·clear hK5
        first | exact hT.hit (by omega) (by omega) (by omega) hac hhit | exact hT.miss (by omega) (by omega) (by omega) hac hhit
       ·(try dsimp only); omega
       ·exact sr (sr (sr (sr (sr (sr (sr (sr (Sub.nil _))))))))
       ·exact pk [0, 2, 4]
      ·skip
       have hhit := hc31
       refine c_skip ?_
       refine q_block_normal (q_then ?_)
       refine c_region ?_
       refine o_mv rfl rfl ?_
       refine o_p (p_addb rfl rfl (by omega)) ?_
       refine o_as rfl rfl ?_
       refine o_nil ?_
       refine q_round hK5 (hits, i + 1, (prt.set ((Shd.owner l ((keys.take ((min (keys.length : Int) 40).toNat)).getD i default)).toNat) ((prt.getD ((Shd.owner l ((keys.take ((min (keys.length : Int) 40).toNat)).getD i default)).toNat) []) ++ [fs])), (cprt.put ((Shd.owner l ((keys.take ((min (keys.length : Int) 40).toNat)).getD i default)).toNat) a19 c20), S22, ((ow.set ((Shd.owner l ((keys.take ((min (keys.length : Int) 40).toNat)).getD i default)).toNat) (⟨room, (ow.getD ((Shd.owner l ((keys.take ((min (keys.length : Int) 40).toNat)).getD i default)).toNat) default).keys⟩ : DCache)).set ((Shd.owner l ((keys.take ((min (keys.length : Int) 40).toNat)).getD i default)).toNat) ((Lru.access ((ow.set ((Shd.owner l ((keys.take ((min (keys.length : Int) 40).toNat)).getD i default)).toNat) (⟨room, (ow.getD ((Shd.owner l ((keys.take ((min (keys.length : Int) 40).toNat)).getD i default)).toNat) default).keys⟩ : DCache)).getD ((Shd.owner l ((keys.take ((min (keys.length : Int) 40).toNat)).getD i default)).toNat) default) fs).1)), (cow.put ((Shd.owner l ((keys.take ((min (keys.length : Int) 40).toNat)).getD i default)).toNat) a25 c26), S30) ?_ ?_ ?_ ?_
       ·clear hK5
        first | exact hT.hit (by omega) (by omega) (by omega) hac hhit | exact hT.miss (by omega) (by omega) (by omega) hac hhit
       ·(try dsimp only); omega
       ·exact sr (sr (sr (sr (sr (sr (sr (sr (Sub.nil _))))))))
       ·exact pk [0, 2, 4]
 ·simp only [decide_eq_false_iff_not, Int.not_lt] at hc6
  refine c_exit ?_
  refine q_then_exit (q_then_exit (q_block_exit (q_then ?_)))
  refine c_seq (c_region ?_)
  refine o_as rfl rfl ?_
  refine o_nil (q_then (c_seq (c_seq (c_region ?_))))
  refine o_as rfl rfl ?_
  refine o_nil (q_then (c_block ?_))
  refine c_loop (St := Int × Nat)
   (fun ⟨sm, o2⟩ => [(1, .slice apoints points.length cpoints), (3, Vi room), (9, .pointer (some ⟨B1, 0, none⟩)), (10, .pointer (some ⟨B3, 0, none⟩)), (11, Vi hits), (21, Vi sm), (22, Vi (o2 : Int))])
   (fun ⟨sm, o2⟩ => [ownC Sow (some ⟨B3, 0, none⟩) cow ow, ownN tInt Sprt (some ⟨B1, 0, none⟩) cprt prt, base w0])
   (fun ⟨sm, o2⟩ => o2 ≤ 20 ∧ sm = Ys.hsum room prt o2)
   (fun ⟨sm, o2⟩ => 20 - o2)
   (0, 0) ?_ (sr (sr (sr (sr (sr (sr (sr (Sub.nil _)))))))) (fun _ hw => hw) ?_
  ·exact ⟨by omega, rfl⟩
  rintro ⟨sm, o2⟩ hS K hK32
  have hsb := Ys.sum_bd hT o2 hS.1
  show SC _ _ Try.prog 192 w0 _ _ [(1, .slice apoints points.length cpoints), (3, Vi room), (9, .pointer (some ⟨B1, 0, none⟩)), (10, .pointer (some ⟨B3, 0, none⟩)), (11, Vi hits), (21, Vi sm), (22, Vi (o2 : Int))] [ownC Sow (some ⟨B3, 0, none⟩) cow ow, ownN tInt Sprt (some ⟨B1, 0, none⟩) cprt prt, base w0]
  refine c_seq (c_seq (c_region ?_))
  refine o_mv rfl rfl ?_
  refine o_p (p_lt rfl rfl) ?_
  refine o_nil (q_then ?_)
  refine c_cond rfl (fun hc33 => ?_) (fun hc33 => ?_)
  ·simp only [decide_eq_true_eq] at hc33
   have hps := hT.small (o := o2) (by omega)
   have hnb := Ys.hts_bd room (prt.getD o2 [])
   refine c_skip (q_then (c_seq (c_block (c_seq (c_seq (c_region ?_))))))
   refine o_mv rfl rfl ?_
   refine o_p (p_indexAddrV (i := (o2 : Int)) (N := 20) rfl rfl Try.underlying79 sz45 (by first | omega | decide) (by first | omega | decide)) ?_
   refine o_p (p_loadN (T := tInt) (c := cprt) (LL := prt) (i := o2) rfl (rd_ownN (i := 1) rfl) (by first | assumption | omega | decide) sh45) ?_
   refine o_p (p_len_slice rfl rfl Try.underlying45) ?_
   refine o_p (p_eq rfl rfl) ?_
   refine o_nil (q_then ?_)
   refine c_cond rfl (fun hc34 => ?_) (fun hc34 => ?_)
   ·simp only [beq_iff_eq] at hc34
    have hz := hc34
    refine c_exit ?_
    refine q_then_exit (q_block_exit (q_then ?_))
    refine c_region ?_
    refine o_mv rfl rfl ?_
    refine o_p (p_addb rfl rfl (by omega)) ?_
    refine o_as rfl rfl ?_
    refine o_nil ?_
    refine q_round hK32 (sm, o2 + 1) ?_ ?_ ?_ ?_
    ·clear hK32
     first | exact ⟨by omega, hS.2.trans (Ys.sum_skip room hz).symm⟩ | exact ⟨by omega, by rw [hS.2, hal.2.2, ← Ys.sum_next]⟩
    ·(try dsimp only); omega
    ·exact sr (sr (sr (sr (sr (sr (sr (Sub.nil _)))))))
    ·exact pk [0, 1, 2]
   ·simp only [beq_eq_false_iff_ne, ne_eq] at hc34
    have hal := hT.alone (by omega) (Ys.ne_of hc34)
    refine c_skip (q_then (c_seq (c_region ?_)))
    refine o_mv rfl rfl ?_
    refine o_p (p_build (cells := [Vi room, .slice none 0 0]) fp74 ze74 rfl rfl) ?_
    refine o_mv rfl rfl ?_
    refine o_p (p_indexAddrV (i := (o2 : Int)) (N := 20) rfl rfl Try.underlying79 sz45 (by first | omega | decide) (by first | omega | decide)) ?_
    refine o_p (p_loadN (T := tInt) (c := cprt) (LL := prt) (i := o2) rfl (rd_ownN (i := 1) rfl) (by first | assumption | omega | decide) sh45) ?_
    refine o_callM rfl (lrun_ok (⟨room, []⟩ : DCache) none 0 (prt.getD o2 []) (cprt.ra o2) (cprt.rc o2)) hf49 (fun w hw => ⟨rd_nil w hw, (rd_rowN (i := o2) (rd_ownN (i := 1) rfl) (by first | assumption | omega)) w hw⟩) rfl (fun _ _ _ _ ha hA => SlO.agree ha hA) ?_
    rintro ⟨a37, c38⟩ S35
    refine o_know (fun w hw => own_len (i := 0) (T := tInt) hw rfl) (fun hlr39 => ?_)
    refine o_mv rfl rfl ?_
    refine o_ex rfl rfl rfl ?_
    refine o_ex rfl rfl rfl ?_
    refine o_ex rfl rfl rfl ?_
    refine o_alloc ze74 rfl (fun B40 => ?_)
    refine o_storeN (i := 0) (vs := [Vi (((Lru.run (⟨room, []⟩ : DCache) (prt.getD o2 [])).1).room), .slice a37 (((Lru.run (⟨room, []⟩ : DCache) (prt.getD o2 [])).1).keys).length c38]) (cs' := [Vi (((Lru.run (⟨room, []⟩ : DCache) (prt.getD o2 [])).1).room), .slice a37 (((Lru.run (⟨room, []⟩ : DCache) (prt.getD o2 [])).1).keys).length c38]) rfl rfl rfl sz74 rfl rfl rfl rfl ?_
    refine o_as rfl rfl ?_
    refine o_as rfl rfl ?_
    refine o_nil (q_then (c_seq (c_seq ?_)))
    refine c_draw hmix (by kernel_rfl) ?_
    refine w_mv rfl rfl ?_
    refine w_p (p_ne rfl rfl) ?_
    refine w_mv rfl rfl ?_
    refine w_or (p := 138) 9 (!(Ref.sameInts (((Lru.run (⟨room, []⟩ : DCache) (prt.getD o2 [])).1).keys) ((ow.getD o2 default).keys))) ?_ ?_ ?_
    ·intro hb41 hk
     simp only [bne_eq_false_iff_eq] at hb41
     refine w_unguard 129 rfl rfl ?_
     refine w_p (p_fieldAddr (j' := 1) rfl fo74_1 rfl) ?_
     refine w_unguard 129 rfl rfl ?_
     refine w_p (p_load (i := 0) (v := .slice a37 (((Lru.run (⟨room, []⟩ : DCache) (prt.getD o2 [])).1).keys).length c38) rfl rfl sh45 rfl) ?_
     refine w_unguard 129 rfl rfl ?_
     refine w_mv rfl rfl ?_
     refine w_unguard 129 rfl rfl ?_
     refine w_p (p_indexAddrV (i := (o2 : Int)) (N := 20) rfl rfl Try.underlying80 sz74 (by first | omega | decide) (by first | omega | decide)) ?_
     refine w_unguard 129 rfl rfl ?_
     refine w_p (p_fieldAddrE rfl fo74_1) ?_
     refine w_unguard 129 rfl rfl ?_
     refine w_p (p_loadCK (i := 2) (k := o2) rfl rfl (by first | omega | (simp only [List.length_set]; omega)) sh45) ?_
     refine w_unguard 129 rfl rfl ?_
     refine w_call0 (v := .bool (Ref.sameInts (((Lru.run (⟨room, []⟩ : DCache) (prt.getD o2 [])).1).keys) ((ow.getD o2 default).keys))) rfl (tsame_ok (((Lru.run (⟨room, []⟩ : DCache) (prt.getD o2 [])).1).keys) a37 c38 ((ow.getD o2 default).keys) (cow.ra o2) (cow.rc o2)) hf52 (fun w hw => ⟨(rd_own (i := 1) rfl) w hw, (rd_rowC (i := 2) (k := o2) rfl (by first | omega | (simp only [List.length_set]; omega))) w hw⟩) rfl ?_
     refine w_unguard 129 rfl rfl ?_
     refine w_p (p_not (b := (Ref.sameInts (((Lru.run (⟨room, []⟩ : DCache) (prt.getD o2 [])).1).keys) ((ow.getD o2 default).keys))) rfl) ?_
     refine w_pf rfl rfl rfl ?_
     exact w_sub (sr (Sub.skip rfl (Sub.skip rfl (Sub.skip rfl (Sub.skip rfl (Sub.skip rfl (Sub.skip rfl (Sub.skip rfl (Sub.skip rfl (Sub.skip rfl (Sub.skip rfl (Sub.refl _)))))))))))) hk
    ·intro hb41 hk
     refine w_guard_no rfl 129 rfl rfl rfl rfl rfl ?_
     refine w_guard_no rfl 129 rfl rfl rfl rfl rfl ?_
     refine w_guard_no rfl 129 rfl rfl rfl rfl rfl ?_
     refine w_guard_no rfl 129 rfl rfl rfl rfl rfl ?_
     refine w_guard_no rfl 129 rfl rfl rfl rfl rfl ?_
     refine w_guard_no rfl 129 rfl rfl rfl rfl rfl ?_
     refine w_guard_no rfl 129 rfl rfl rfl rfl rfl ?_
     refine w_guard_no rfl 129 rfl rfl rfl rfl rfl ?_
     refine w_pt rfl rfl rfl ?_
     exact w_sub (sr (Sub.skip rfl (Sub.skip rfl (Sub.skip rfl (Sub.skip rfl (Sub.skip rfl (Sub.skip rfl (Sub.skip rfl (Sub.skip rfl (Sub.skip rfl (Sub.skip rfl (Sub.refl _)))))))))))) hk
    refine w_nil (q_then ?_)
    refine c_cond rfl (fun hc42 => ?_) (fun hc42 => ?_)
    ·simp only [Bool.or_eq_true, bne_iff_ne, ne_eq, Bool.not_eq_true'] at hc42
     exfalso; rw [hal.2.1] at hc42; rcases hc42 with h9 | h9; exact h9 hal.1; simp [Ref.sameInts] at h9
    ·simp only [Bool.or_eq_false_iff, bne_eq_false_iff_eq, Bool.not_eq_false'] at hc42
     refine c_skip (q_then (c_region ?_))
     refine o_mv rfl rfl ?_
     refine o_mv rfl rfl ?_
     refine o_p (p_addb rfl rfl (by omega)) ?_
     refine o_as rfl rfl ?_
     refine o_nil ?_
     refine q_block_normal (q_then ?_)
     refine c_region ?_
     refine o_mv rfl rfl ?_
     refine o_p (p_addb rfl rfl (by omega)) ?_
     refine o_as rfl rfl ?_
     refine o_nil ?_
     refine q_round hK32 ((sm + ((Lru.run (⟨room, []⟩ : DCache) (prt.getD o2 [])).2)), o2 + 1) ?_ ?_ ?_ ?_
     ·clear hK32
      first | exact ⟨by omega, hS.2.trans (Ys.sum_skip room hz).symm⟩ | exact ⟨by omega, by rw [hS.2, hal.2.2, ← Ys.sum_next]⟩
     ·(try dsimp only); omega
     ·exact sr (sr (sr (sr (sr (sr (sr (Sub.nil _)))))))
     ·exact pk [2, 3, 4]
  ·simp only [decide_eq_false_iff_not, Int.not_lt] at hc33
   refine c_exit ?_
   refine q_then_exit (q_then_exit (q_block_exit (q_then ?_)))
   refine c_seq (c_region ?_)
   refine o_mv rfl rfl ?_
   refine o_callM rfl (rshares_ok points apoints cpoints (20 : Int)) hf53 (fun w hw => (rd_base (i := 2) rfl hpoints) w hw) rfl (fun _ _ _ _ ha hA => SlO.agree ha hA) ?_
   rintro ⟨a45, c46⟩ S43
   refine o_know (fun w hw => own_len (i := 0) (T := tInt) hw rfl) (fun hlr47 => ?_)
   refine o_mv rfl rfl ?_
   refine o_ex rfl rfl rfl ?_
   refine o_ex rfl rfl rfl ?_
   refine o_as rfl rfl ?_
   refine o_as rfl rfl ?_
   refine o_nil (q_then (c_seq (c_seq (c_region ?_))))
   refine o_mv rfl rfl ?_
   refine o_p (p_eq rfl rfl) ?_
   refine o_nil (q_then ?_)
   refine c_cond rfl (fun hc48 => ?_) (fun hc48 => ?_)
   ·simp only [beq_iff_eq] at hc48
    have hsh := hc48
    have hsl := Rg.shares_len hsh
    refine c_seq (c_region ?_)
    refine o_as rfl rfl ?_
    refine o_nil (q_then (c_block ?_))
    refine c_loop (St := Nat)
     (fun i3 => [(1, .slice apoints points.length cpoints), (11, Vi hits), (21, Vi sm), (26, .slice a45 (Rg.shares points (20 : Int)).length c46), (28, Vi (i3 : Int))])
     (fun i3 => [own tInt S43 a45 c46 (Rg.shares points (20 : Int)), ownC Sow (some ⟨B3, 0, none⟩) cow ow, ownN tInt Sprt (some ⟨B1, 0, none⟩) cprt prt, base w0])
     (fun i3 => i3 ≤ points.length)
     (fun i3 => points.length - i3)
     0 ?_ (sr (sr (sr (sr (sr (Sub.nil _)))))) (fun _ hw => hw) ?_
    ·exact Nat.zero_le _
    rintro i3 hR K hK49
    show SC _ _ Try.prog 192 w0 _ _ [(1, .slice apoints points.length cpoints), (11, Vi hits), (21, Vi sm), (26, .slice a45 (Rg.shares points (20 : Int)).length c46), (28, Vi (i3 : Int))] [own tInt S43 a45 c46 (Rg.shares points (20 : Int)), ownC Sow (some ⟨B3, 0, none⟩) cow ow, ownN tInt Sprt (some ⟨B1, 0, none⟩) cprt prt, base w0]
    refine c_seq (c_seq (c_region ?_))
    refine o_mv rfl rfl ?_
    refine o_mv rfl rfl ?_
    refine o_p (p_len_slice rfl rfl Try.underlying78) ?_
    refine o_p (p_lt rfl rfl) ?_
    refine o_nil (q_then ?_)
    refine c_cond rfl (fun hc50 => ?_) (fun hc50 => ?_)
    ·simp only [decide_eq_true_eq] at hc50
     have hra := Ys.ring_at hsh (i := i3) (by omega)
     refine c_skip (q_then (c_seq (c_block (c_seq (c_region ?_)))))
     refine o_mv rfl rfl ?_
     refine o_mv rfl rfl ?_
     refine o_mv rfl rfl ?_
     refine o_p (p_indexAddr (L := points) (T := tPoint) (i := (i3 : Int)) rfl rfl (rd_base (i := 3) rfl hpoints) Try.underlying78 sz86 (by omega) (by omega)) ?_
     refine o_p (p_fieldAddrE rfl fo86_0) ?_
     refine o_p (p_loadF (i := i3) (j := 0) (T := tPoint) (L := points) (v := Vi ((points.getD i3 default).at_)) rfl (rd_base (i := 3) rfl hpoints) (by first | assumption | omega) sh3 (congrArg (fun z => (tPoint.enc z)[0]?) (getd_at (by first | assumption | omega) default))) ?_
     refine o_call0 (v := .tuple #[Vi (Rg.owner points ((points.getD i3 default).at_)), Vi (Rg.ownErr points ((points.getD i3 default).at_))]) rfl (rowner_ok points apoints cpoints ((points.getD i3 default).at_)) hf54 (fun w hw => (rd_base (i := 3) rfl hpoints) w hw) rfl ?_
     refine o_mv rfl rfl ?_
     refine o_ex rfl rfl rfl ?_
     refine o_ex rfl rfl rfl ?_
     refine o_as rfl rfl ?_
     refine o_as rfl rfl ?_
     refine o_nil (q_then (c_seq (c_region ?_)))
     refine o_mv rfl rfl ?_
     refine o_p (p_ne rfl rfl) ?_
     refine o_mv rfl rfl ?_
     refine o_or (p := 175) 8 ((Rg.owner points ((points.getD i3 default).at_)) != (points.getD i3 default).shard) ?_ ?_ ?_
     ·intro hb51 hk
      simp only [bne_eq_false_iff_eq] at hb51
      refine o_unguard 167 rfl rfl ?_
      refine o_mv rfl rfl ?_
      refine o_unguard 167 rfl rfl ?_
      refine o_mv rfl rfl ?_
      refine o_unguard 167 rfl rfl ?_
      refine o_mv rfl rfl ?_
      refine o_unguard 167 rfl rfl ?_
      refine o_p (p_indexAddr (L := points) (T := tPoint) (i := (i3 : Int)) rfl rfl (rd_base (i := 3) rfl hpoints) Try.underlying78 sz86 (by omega) (by omega)) ?_
      refine o_unguard 167 rfl rfl ?_
      refine o_p (p_fieldAddrE rfl fo86_1) ?_
      refine o_unguard 167 rfl rfl ?_
      refine o_p (p_loadF (i := i3) (j := 1) (T := tPoint) (L := points) (v := Vi ((points.getD i3 default).shard)) rfl (rd_base (i := 3) rfl hpoints) (by first | assumption | omega) sh3 (congrArg (fun z => (tPoint.enc z)[1]?) (getd_at (by first | assumption | omega) default))) ?_
      refine o_unguard 167 rfl rfl ?_
      refine o_p (p_ne rfl rfl) ?_
      refine o_pf rfl rfl rfl ?_
      exact o_sub (sr (Sub.skip rfl (Sub.skip rfl (Sub.skip rfl (Sub.skip rfl (Sub.skip rfl (Sub.skip rfl (Sub.skip rfl (Sub.skip rfl (Sub.skip rfl (Sub.refl _))))))))))) hk
     ·intro hb51 hk
      refine o_guard_no rfl 167 rfl rfl rfl rfl rfl ?_
      refine o_guard_no rfl 167 rfl rfl rfl rfl rfl ?_
      refine o_guard_no rfl 167 rfl rfl rfl rfl rfl ?_
      refine o_guard_no rfl 167 rfl rfl rfl rfl rfl ?_
      refine o_guard_no rfl 167 rfl rfl rfl rfl rfl ?_
      refine o_guard_no rfl 167 rfl rfl rfl rfl rfl ?_
      refine o_guard_no rfl 167 rfl rfl rfl rfl rfl ?_
      refine o_pt rfl rfl rfl ?_
      exact o_sub (sr (Sub.skip rfl (Sub.skip rfl (Sub.skip rfl (Sub.skip rfl (Sub.skip rfl (Sub.skip rfl (Sub.skip rfl (Sub.skip rfl (Sub.skip rfl (Sub.refl _))))))))))) hk
     refine o_mv rfl rfl ?_
     refine o_or (p := 181) 5 (decide (((Rg.shares points (20 : Int)).length : Int) ≤ (Rg.owner points ((points.getD i3 default).at_)))) ?_ ?_ ?_
     ·intro hb52 hk
      simp only [Bool.or_eq_false_iff, bne_eq_false_iff_eq] at hb52
      refine o_unguard 176 rfl rfl ?_
      refine o_mv rfl rfl ?_
      refine o_unguard 176 rfl rfl ?_
      refine o_mv rfl rfl ?_
      refine o_unguard 176 rfl rfl ?_
      refine o_p (p_len_slice rfl rfl Try.underlying45) ?_
      refine o_unguard 176 rfl rfl ?_
      refine o_p (p_ge rfl rfl) ?_
      refine o_pf rfl rfl rfl ?_
      exact o_sub (sr (Sub.skip rfl (Sub.skip rfl (Sub.skip rfl (Sub.skip rfl (Sub.skip rfl (Sub.skip rfl (Sub.refl _)))))))) hk
     ·intro hb52 hk
      refine o_guard_no rfl 176 rfl rfl rfl rfl rfl ?_
      refine o_guard_no rfl 176 rfl rfl rfl rfl rfl ?_
      refine o_guard_no rfl 176 rfl rfl rfl rfl rfl ?_
      refine o_guard_no rfl 176 rfl rfl rfl rfl rfl ?_
      refine o_pt rfl rfl rfl ?_
      exact o_sub (sr (Sub.skip rfl (Sub.skip rfl (Sub.skip rfl (Sub.skip rfl (Sub.skip rfl (Sub.skip rfl (Sub.refl _)))))))) hk
     refine o_mv rfl rfl ?_
     refine o_or (p := 188) 6 (((Rg.shares points (20 : Int)).getD ((Rg.owner points ((points.getD i3 default).at_)).toNat) default) == 0) ?_ ?_ ?_
     ·intro hb53 hk
      simp only [Bool.or_eq_false_iff, bne_eq_false_iff_eq, decide_eq_false_iff_not, Int.not_le] at hb53
      refine o_unguard 182 rfl rfl ?_
      refine o_mv rfl rfl ?_
      refine o_unguard 182 rfl rfl ?_
      refine o_mv rfl rfl ?_
      refine o_unguard 182 rfl rfl ?_
      refine o_p (p_indexAddr (L := (Rg.shares points (20 : Int))) (T := tInt) (i := (Rg.owner points ((points.getD i3 default).at_))) rfl rfl (rd_own (i := 0) rfl) Try.underlying45 sz3 (by omega) (by omega)) ?_
      refine o_unguard 182 rfl rfl ?_
      refine o_p (p_loadE1 (i := (Rg.owner points ((points.getD i3 default).at_)).toNat) (T := tInt) (L := (Rg.shares points (20 : Int))) (v := Vi ((Rg.shares points (20 : Int)).getD ((Rg.owner points ((points.getD i3 default).at_)).toNat) default)) rfl (rd_own (i := 0) rfl) (by first | assumption | omega) sh3 (congrArg tInt.enc (getd_at (by first | assumption | omega) default))) ?_
      refine o_unguard 182 rfl rfl ?_
      refine o_p (p_eq rfl rfl) ?_
      refine o_pf rfl rfl rfl ?_
      exact o_sub (sr (Sub.skip rfl (Sub.skip rfl (Sub.skip rfl (Sub.skip rfl (Sub.skip rfl (Sub.skip rfl (Sub.skip rfl (Sub.refl _))))))))) hk
     ·intro hb53 hk
      refine o_guard_no rfl 182 rfl rfl rfl rfl rfl ?_
      refine o_guard_no rfl 182 rfl rfl rfl rfl rfl ?_
      refine o_guard_no rfl 182 rfl rfl rfl rfl rfl ?_
      refine o_guard_no rfl 182 rfl rfl rfl rfl rfl ?_
      refine o_guard_no rfl 182 rfl rfl rfl rfl rfl ?_
      refine o_pt rfl rfl rfl ?_
      exact o_sub (sr (Sub.skip rfl (Sub.skip rfl (Sub.skip rfl (Sub.skip rfl (Sub.skip rfl (Sub.skip rfl (Sub.skip rfl (Sub.refl _))))))))) hk
     refine o_nil (q_then ?_)
     refine c_cond rfl (fun hc54 => ?_) (fun hc54 => ?_)
     ·simp only [Bool.or_eq_true, bne_iff_ne, ne_eq, decide_eq_true_eq, beq_iff_eq] at hc54
      exfalso; have q1 := hra.1; have q2 := hra.2.1; have q3 := hra.2.2.1; have q4 := hra.2.2.2; rw [q2] at hc54; omega
     ·simp only [Bool.or_eq_false_iff, bne_eq_false_iff_eq, decide_eq_false_iff_not, Int.not_le, beq_eq_false_iff_ne, ne_eq] at hc54
      refine c_skip ?_
      refine q_block_normal (q_then ?_)
      refine c_region ?_
      refine o_mv rfl rfl ?_
      refine o_p (p_addb rfl rfl (by omega)) ?_
      refine o_as rfl rfl ?_
      refine o_nil ?_
      refine q_round hK49 (i3 + 1) ?_ ?_ ?_ ?_
      ·clear hK49
       (try dsimp only); omega
      ·(try dsimp only); omega
      ·exact sr (sr (sr (sr (sr (Sub.nil _)))))
      ·exact pk [0, 1, 2, 3]
    ·simp only [decide_eq_false_iff_not, Int.not_lt] at hc50
     refine c_exit ?_
     refine q_then_exit (q_then_exit (q_block_exit (q_then ?_)))
     refine c_seq (c_region ?_)
     refine o_mv rfl rfl ?_
     refine o_mv rfl rfl ?_
     refine o_p (p_eq rfl rfl) ?_
     refine o_as rfl rfl ?_
     refine o_nil (q_then (c_ret ?_))
     have hr0 : ((sm == hits) : Bool) = true := by
      first | rfl | (have e9 : sm = hits := (by rw [hS.2, hT.sum, show o2 = 20 by omega]); simp [e9]; done)
     refine q_end0 (v := .bool (sm == hits)) (rt1 rfl (r_tmp rfl)) (i := 3) rfl ?_
     exact (by have hcc := congrArg (fun (y0 : Bool) => (.bool y0 : Value)) hr0; exact hcc)
   ·simp only [beq_eq_false_iff_ne, ne_eq] at hc48
    refine c_skip (q_then (c_seq (c_region ?_)))
    refine o_mv rfl rfl ?_
    refine o_mv rfl rfl ?_
    refine o_p (p_eq rfl rfl) ?_
    refine o_as rfl rfl ?_
    refine o_nil (q_then (c_ret ?_))
    have hr0 : ((sm == hits) : Bool) = true := by
     first | rfl | (have e9 : sm = hits := (by rw [hS.2, hT.sum, show o2 = 20 by omega]); simp [e9]; done)
    refine q_end0 (v := .bool (sm == hits)) (rt1 rfl (r_tmp rfl)) (i := 3) rfl ?_
    exact (by have hcc := congrArg (fun (y0 : Bool) => (.bool y0 : Value)) hr0; exact hcc)
end Go.Proofs.Ythecfjipaepcgaa

/- How the arguments read. -/
namespace Go.Proofs.Ythecfjipaepcgaa
open Go.ChangeShapes Go.WideShapes Go.ChangeAt Go.RowKit Go.Sx
def WtShard (c : DShard) : Prop := c.name.size ≤ 9223372036854775807 ∧ In64 c.weight
set_option maxRecDepth 100000 in
theorem elTy_shard : ElTy Try.prog 50 tShard WtShard := by
 refine ⟨by kernel_rfl, by decide, fun {H} enc w fuel cs x h => ?_⟩
 obtain ⟨xs, n, _, _, hl, hxs, hf⟩ := DataW.trod_struct Try.underlying50 h
 rw [show Try.prog.cellsOf 50 = 2 by kernel_rfl] at hl
 match cs, hl, xs, hxs with
 | [c0, c1], _, [y0, y1], _ =>
  have k3 : Try.prog.cellsOf 3 = 1 := by kernel_rfl
  have k9 : Try.prog.cellsOf 9 = 1 := by kernel_rfl
  have h0 : DataW.trod enc Try.prog w 0 (fun _ => true) true n 9 (([c0, c1].drop 0).take (Try.prog.cellsOf 9)) = some y0 := hf 0 _ rfl
  rw [k9] at h0
  simp only [List.drop_zero, List.drop_succ_cons, List.take_succ_cons, List.take_zero] at h0
  obtain ⟨z0, e0, _, w0⟩ := DataW.trod_string Try.underlying9 h0
  simp only [List.cons.injEq, and_true] at e0
  have h1 : DataW.trod enc Try.prog w 0 (fun _ => true) true n 3 (([c0, c1].drop 1).take (Try.prog.cellsOf 3)) = some y1 := hf 1 _ rfl
  rw [k3] at h1
  simp only [List.drop_zero, List.drop_succ_cons, List.take_succ_cons, List.take_zero] at h1
  obtain ⟨z1, e1, _, w1⟩ := DataW.trod_int Try.underlying3 h1
  simp only [List.cons.injEq, and_true] at e1
  subst e0 e1
  exact ⟨⟨z0, z1⟩, rfl, ⟨w0, in64_of w1⟩⟩
def WtPoint (c : DPoint) : Prop := In64 c.at_ ∧ In64 c.shard
set_option maxRecDepth 100000 in
theorem elTy_point : ElTy Try.prog 86 tPoint WtPoint := by
 refine ⟨by kernel_rfl, by decide, fun {H} enc w fuel cs x h => ?_⟩
 obtain ⟨xs, n, _, _, hl, hxs, hf⟩ := DataW.trod_struct Try.underlying86 h
 rw [show Try.prog.cellsOf 86 = 2 by kernel_rfl] at hl
 match cs, hl, xs, hxs with
 | [c0, c1], _, [y0, y1], _ =>
  have k3 : Try.prog.cellsOf 3 = 1 := by kernel_rfl
  have h0 : DataW.trod enc Try.prog w 0 (fun _ => true) true n 3 (([c0, c1].drop 0).take (Try.prog.cellsOf 3)) = some y0 := hf 0 _ rfl
  rw [k3] at h0
  simp only [List.drop_zero, List.drop_succ_cons, List.take_succ_cons, List.take_zero] at h0
  obtain ⟨z0, e0, _, w0⟩ := DataW.trod_int Try.underlying3 h0
  simp only [List.cons.injEq, and_true] at e0
  have h1 : DataW.trod enc Try.prog w 0 (fun _ => true) true n 3 (([c0, c1].drop 1).take (Try.prog.cellsOf 3)) = some y1 := hf 1 _ rfl
  rw [k3] at h1
  simp only [List.drop_zero, List.drop_succ_cons, List.take_succ_cons, List.take_zero] at h1
  obtain ⟨z1, e1, _, w1⟩ := DataW.trod_int Try.underlying3 h1
  simp only [List.cons.injEq, and_true] at e1
  subst e0 e1
  exact ⟨⟨z0, z1⟩, rfl, ⟨in64_of w0, in64_of w1⟩⟩
end Go.Proofs.Ythecfjipaepcgaa
