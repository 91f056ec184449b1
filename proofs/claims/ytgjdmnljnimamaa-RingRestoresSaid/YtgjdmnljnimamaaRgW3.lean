/- The walks, printed by a program from the translation and a specification. -/
import Derived.Test.YtgjdmnljnimamaaRgF
import Derived.Test.YtgjdmnljnimamaaRgLaw3
import Derived.Test.YtgjdmnljnimamaaRgW2
namespace Go.Proofs.Ytgjdmnljnimamaa
open Go.Sx Go.RowKit
set_option maxHeartbeats 8000000 in
set_option maxRecDepth 100000 in
theorem bsearch_ok (l : List DPoint) (al : Option Addr) (cl : Nat) (target : Int) (gf : FuncId) (kf : List Value) (f : DPoint → Int → Int) (Pf : World → Prop) (stf : ∀ w w', Below w.heap.size w w' → Pf w → Pf w') (okf : ∀ (x : DPoint) (y : Int), Fn0 Try.prog gf (.agg #[.int .i64 x.at_, .int .i64 x.shard] :: .int .i64 y :: kf) Pf (.int .i64 (f x y))) (hpf : HasFn Try.prog gf) (hy1 : Split (fun x => f x target) l) : Fn0 Try.prog 48 [.slice al l.length cl, .int .i64 target, .func (.func gf) #[] kf.toArray] (fun w => Rd tPoint w al cl l ∧ Pf w) (.tuple #[.int .i64 (lowF (fun x => f x target) l : Int), .bool (hitF (fun x => f x target) l)]) := by
  refine fn0 (nt := 49) (F0 := [(0, .slice al l.length cl), (1, .int .i64 target), (2, .func (.func gf) #[] kf.toArray)]) Try.func48 rfl Try.ntmps48 rfl rfl (fun w0 hpre => ?_)
  obtain ⟨hl, hf⟩ := hpre
  have hlhl := hl.2.1
  refine c_seq ?_
  refine c_region ?_
  refine o_pure (p_assign (v := .int .i64 0) rfl) rfl rfl rfl ?_
  refine o_pure (p_assign (v := .bool false) rfl) rfl rfl rfl ?_
  refine o_nil ?_
  refine q_then ?_
  refine c_seq ?_
  refine c_region ?_
  refine o_pure (p_move (v := .slice al l.length cl) rfl) rfl rfl rfl ?_
  refine o_pure (p_len_slice (len := l.length) rfl rfl Try.underlying22) rfl rfl rfl ?_
  refine o_pure (p_assign (v := .int .i64 (l.length : Int)) rfl) rfl rfl rfl ?_
  refine o_nil ?_
  refine q_then ?_
  refine c_seq ?_
  refine c_region ?_
  refine o_pure (p_move (v := .int .i64 (l.length : Int)) rfl) rfl rfl rfl ?_
  refine o_pure (p_assign (v := .int .i64 0) rfl) rfl rfl rfl ?_
  refine o_pure (p_assign (v := .int .i64 (l.length : Int)) rfl) rfl rfl rfl ?_
  refine o_nil ?_
  refine q_then ?_
  refine c_seq ?_
  refine c_block ?_
  refine c_loop (St := Int × Int)
    (fun ⟨i, j⟩ => [(0, .slice al l.length cl), (1, .int .i64 target), (2, .func (.func gf) #[] kf.toArray), (8, .int .i64 (l.length : Int)), (9, .int .i64 i), (10, .int .i64 j)])
    (fun ⟨i, j⟩ => [base w0])
    (fun ⟨i, j⟩ => LowI (fun x => f x target) l i j)
    (fun ⟨i, j⟩ => (j - i).toNat)
    (0, (l.length : Int)) ?_ (Sub.cons rfl (Sub.cons rfl (Sub.cons rfl (Sub.cons rfl (Sub.cons rfl (Sub.cons rfl (Sub.nil _))))))) (fun _ hw => hw) ?_
  · exact LowI.start _ _
  rintro ⟨i, j⟩ hI K hK1
  have h0 := hI.i0
  have h1 := hI.ij
  have h2 := hI.jl
  have hh := half_eq h0 h1 (by omega)
  show SC _ _ Try.prog 49 w0 _ _ [(0, .slice al l.length cl), (1, .int .i64 target), (2, .func (.func gf) #[] kf.toArray), (8, .int .i64 (l.length : Int)), (9, .int .i64 i), (10, .int .i64 j)] [base w0]
  refine c_seq ?_
  refine c_seq ?_
  refine c_region ?_
  refine o_pure (p_move (v := .int .i64 i) rfl) rfl rfl rfl ?_
  refine o_pure (p_move (v := .int .i64 j) rfl) rfl rfl rfl ?_
  refine o_pure (p_lt (p := i) (q := j) rfl rfl) rfl rfl rfl ?_
  refine o_nil ?_
  refine q_then ?_
  refine c_cond (b := decide (i < j)) rfl (fun hc2 => ?_) (fun hc2 => ?_)
  · simp only [decide_eq_true_eq] at hc2
    refine c_skip ?_
    refine q_then ?_
    refine c_block ?_
    refine c_seq ?_
    refine c_region ?_
    refine o_pure (p_move (v := .int .i64 i) rfl) rfl rfl rfl ?_
    refine o_pure (p_move (v := .int .i64 j) rfl) rfl rfl rfl ?_
    refine o_pure (p_addb (p := i) (q := j) rfl rfl (by omega)) rfl rfl rfl ?_
    refine o_pure (pu_conv (z := (i + j)) rfl Try.underlying3 Try.underlying122) rfl rfl rfl ?_
    refine o_pure (pu_shr (p := (toU (i + j))) (m := 1) rfl rfl rfl) rfl rfl rfl ?_
    refine o_pure (p_conv (z := ((shrU (toU (i + j)) 1).toNat : Int)) rfl Try.underlying122 Try.underlying3) rfl rfl rfl ?_
    refine o_pure (p_assign (v := .int .i64 (IntKind.i64.wrap ((shrU (toU (i + j)) 1).toNat : Int))) rfl) rfl rfl rfl ?_
    refine o_nil ?_
    refine q_then ?_
    refine c_seq ?_
    refine c_region ?_
    refine o_pure (p_move (v := .func (.func gf) #[] kf.toArray) rfl) rfl rfl rfl ?_
    refine o_pure (p_move (v := .slice al l.length cl) rfl) rfl rfl rfl ?_
    refine o_pure (p_move (v := .int .i64 (IntKind.i64.wrap ((shrU (toU (i + j)) 1).toNat : Int))) rfl) rfl rfl rfl ?_
    refine o_pure (p_indexAddr (L := l) (T := tPoint) (i := (IntKind.i64.wrap ((shrU (toU (i + j)) 1).toNat : Int))) rfl rfl (rd_base (i := 0) rfl hl) Try.underlying22 sz35 (by omega) (by omega)) rfl rfl rfl ?_
    refine o_pure (p_loadEn (i := (IntKind.i64.wrap ((shrU (toU (i + j)) 1).toNat : Int)).toNat) (T := tPoint) (L := l) (vs := [.int .i64 ((l.getD ((IntKind.i64.wrap ((shrU (toU (i + j)) 1).toNat : Int)).toNat) default).at_), .int .i64 ((l.getD ((IntKind.i64.wrap ((shrU (toU (i + j)) 1).toNat : Int)).toNat) default).shard)]) rfl (rd_base (i := 0) rfl hl) (by first | assumption | omega) sh35 (congrArg tPoint.enc (getd_at (by first | assumption | omega) default))) rfl rfl rfl ?_
    refine o_pure (p_move (v := .int .i64 target) rfl) rfl rfl rfl ?_
    refine o_call0V (vs := [.agg #[.int .i64 ((l.getD ((IntKind.i64.wrap ((shrU (toU (i + j)) 1).toNat : Int)).toNat) default).at_), .int .i64 ((l.getD ((IntKind.i64.wrap ((shrU (toU (i + j)) 1).toNat : Int)).toNat) default).shard)], .int .i64 target]) (caps := kf) (v := .int .i64 (f (l.getD ((IntKind.i64.wrap ((shrU (toU (i + j)) 1).toNat : Int)).toNat) default) target)) rfl rfl (okf (l.getD ((IntKind.i64.wrap ((shrU (toU (i + j)) 1).toNat : Int)).toNat) default) target) hpf (pre_base (i := 0) rfl stf hf) rfl ?_
    refine o_pure (p_lt (p := (f (l.getD ((IntKind.i64.wrap ((shrU (toU (i + j)) 1).toNat : Int)).toNat) default) target)) (q := 0) rfl rfl) rfl rfl rfl ?_
    refine o_nil ?_
    refine q_then ?_
    refine c_cond (b := decide ((f (l.getD ((IntKind.i64.wrap ((shrU (toU (i + j)) 1).toNat : Int)).toNat) default) target) < 0)) rfl (fun hc3 => ?_) (fun hc3 => ?_)
    · simp only [decide_eq_true_eq] at hc3
      refine c_region ?_
      refine o_pure (p_move (v := .int .i64 (IntKind.i64.wrap ((shrU (toU (i + j)) 1).toNat : Int))) rfl) rfl rfl rfl ?_
      refine o_pure (p_addb (p := (IntKind.i64.wrap ((shrU (toU (i + j)) 1).toNat : Int))) (q := 1) rfl rfl (by omega)) rfl rfl rfl ?_
      refine o_pure (p_assign (v := .int .i64 ((IntKind.i64.wrap ((shrU (toU (i + j)) 1).toNat : Int)) + 1)) rfl) rfl rfl rfl ?_
      refine o_nil ?_
      refine q_block_normal ?_
      refine q_round hK1 (((IntKind.i64.wrap ((shrU (toU (i + j)) 1).toNat : Int)) + 1), j) ?_ ?_ ?_ ?_
      · clear hK1
        first | exact hI.up hy1 (by omega) (by omega) (by omega) (by rw [getd_at (by omega) default]; assumption) | exact hI.down hy1 (by omega) (by omega) (by omega) (by rw [getd_at (by omega) default]; assumption)
      · (try dsimp only); omega
      · exact Sub.cons rfl (Sub.cons rfl (Sub.cons rfl (Sub.cons rfl (Sub.cons rfl (Sub.cons rfl (Sub.nil _))))))
      · exact fun _ hw => HeapIs.pick hw [0] (by decide) rfl
    · simp only [decide_eq_false_iff_not, Int.not_lt] at hc3
      refine c_region ?_
      refine o_pure (p_move (v := .int .i64 (IntKind.i64.wrap ((shrU (toU (i + j)) 1).toNat : Int))) rfl) rfl rfl rfl ?_
      refine o_pure (p_assign (v := .int .i64 (IntKind.i64.wrap ((shrU (toU (i + j)) 1).toNat : Int))) rfl) rfl rfl rfl ?_
      refine o_nil ?_
      refine q_block_normal ?_
      refine q_round hK1 (i, (IntKind.i64.wrap ((shrU (toU (i + j)) 1).toNat : Int))) ?_ ?_ ?_ ?_
      · clear hK1
        first | exact hI.up hy1 (by omega) (by omega) (by omega) (by rw [getd_at (by omega) default]; assumption) | exact hI.down hy1 (by omega) (by omega) (by omega) (by rw [getd_at (by omega) default]; assumption)
      · (try dsimp only); omega
      · exact Sub.cons rfl (Sub.cons rfl (Sub.cons rfl (Sub.cons rfl (Sub.cons rfl (Sub.cons rfl (Sub.nil _))))))
      · exact fun _ hw => HeapIs.pick hw [0] (by decide) rfl
  · simp only [decide_eq_false_iff_not, Int.not_lt] at hc2
    refine c_exit ?_
    refine q_then_exit (q_then_exit (q_block_exit (q_then ?_)))
    refine c_seq ?_
    refine c_region ?_
    refine o_pure (p_move (v := .int .i64 i) rfl) rfl rfl rfl ?_
    refine o_pure (p_move (v := .int .i64 i) rfl) rfl rfl rfl ?_
    refine o_pure (p_move (v := .int .i64 (l.length : Int)) rfl) rfl rfl rfl ?_
    refine o_pure (p_lt (p := i) (q := (l.length : Int)) rfl rfl) rfl rfl rfl ?_
    refine o_pure (p_move (v := .bool (decide (i < (l.length : Int)))) rfl) rfl rfl rfl ?_
    refine o_and (p := 48) 9 ((f (l.getD i.toNat default) target) == 0) ?_ ?_ ?_
    · intro hb4 hk
      simp only [decide_eq_true_eq] at hb4
      refine o_unguard 39 rfl rfl ?_
      refine o_pure (p_move (v := .func (.func gf) #[] kf.toArray) rfl) rfl rfl rfl ?_
      refine o_unguard 39 rfl rfl ?_
      refine o_pure (p_move (v := .slice al l.length cl) rfl) rfl rfl rfl ?_
      refine o_unguard 39 rfl rfl ?_
      refine o_pure (p_move (v := .int .i64 i) rfl) rfl rfl rfl ?_
      refine o_unguard 39 rfl rfl ?_
      refine o_pure (p_indexAddr (L := l) (T := tPoint) (i := i) rfl rfl (rd_base (i := 0) rfl hl) Try.underlying22 sz35 (by omega) (by omega)) rfl rfl rfl ?_
      refine o_unguard 39 rfl rfl ?_
      refine o_pure (p_loadEn (i := i.toNat) (T := tPoint) (L := l) (vs := [.int .i64 ((l.getD i.toNat default).at_), .int .i64 ((l.getD i.toNat default).shard)]) rfl (rd_base (i := 0) rfl hl) (by first | assumption | omega) sh35 (congrArg tPoint.enc (getd_at (by first | assumption | omega) default))) rfl rfl rfl ?_
      refine o_unguard 39 rfl rfl ?_
      refine o_pure (p_move (v := .int .i64 target) rfl) rfl rfl rfl ?_
      refine o_unguard 39 rfl rfl ?_
      refine o_call0V (vs := [.agg #[.int .i64 ((l.getD i.toNat default).at_), .int .i64 ((l.getD i.toNat default).shard)], .int .i64 target]) (caps := kf) (v := .int .i64 (f (l.getD i.toNat default) target)) rfl rfl (okf (l.getD i.toNat default) target) hpf (pre_base (i := 0) rfl stf hf) rfl ?_
      refine o_unguard 39 rfl rfl ?_
      refine o_pure (p_eq (p := (f (l.getD i.toNat default) target)) (q := 0) rfl rfl) rfl rfl rfl ?_
      refine o_pure (p_pick_true (u := .bool ((f (l.getD i.toNat default) target) == 0)) rfl rfl) rfl rfl rfl ?_
      exact o_sub (Sub.cons rfl (Sub.skip rfl (Sub.skip rfl (Sub.skip rfl (Sub.skip rfl (Sub.skip rfl (Sub.skip rfl (Sub.skip rfl (Sub.skip rfl (Sub.skip rfl (Sub.skip rfl (Sub.refl _)))))))))))) hk
    · intro hb4 hk
      refine o_guard_no rfl 39 rfl rfl rfl rfl rfl ?_
      refine o_guard_no rfl 39 rfl rfl rfl rfl rfl ?_
      refine o_guard_no rfl 39 rfl rfl rfl rfl rfl ?_
      refine o_guard_no rfl 39 rfl rfl rfl rfl rfl ?_
      refine o_guard_no rfl 39 rfl rfl rfl rfl rfl ?_
      refine o_guard_no rfl 39 rfl rfl rfl rfl rfl ?_
      refine o_guard_no rfl 39 rfl rfl rfl rfl rfl ?_
      refine o_guard_no rfl 39 rfl rfl rfl rfl rfl ?_
      refine o_pure (p_pick_false (v := .bool false) rfl rfl) rfl rfl rfl ?_
      exact o_sub (Sub.cons rfl (Sub.skip rfl (Sub.skip rfl (Sub.skip rfl (Sub.skip rfl (Sub.skip rfl (Sub.skip rfl (Sub.skip rfl (Sub.skip rfl (Sub.skip rfl (Sub.skip rfl (Sub.refl _)))))))))))) hk
    refine o_pure (p_assign (v := .int .i64 i) rfl) rfl rfl rfl ?_
    refine o_pure (p_assign (v := .bool (decide (i < (l.length : Int)) && ((f (l.getD i.toNat default) target) == 0))) rfl) rfl rfl rfl ?_
    refine o_nil ?_
    refine q_then ?_
    refine c_ret ?_
    have hr0 : (i : Int) = (lowF (fun x => f x target) l : Int) := by
      exact hI.done (by omega)
    have hr1 : ((decide (i < (l.length : Int)) && ((f (l.getD i.toNat default) target) == 0)) : Bool) = (hitF (fun x => f x target) l) := by
      exact hit_eq (f := fun x => f x target) (hI.done (by omega))
    refine q_end0 (v := .tuple #[.int .i64 i, .bool (decide (i < (l.length : Int)) && ((f (l.getD i.toNat default) target) == 0))]) (rt2 rfl (r_tmp rfl) (r_tmp rfl)) (i := 0) rfl ?_
    exact (by have hcc := congr (congrArg (fun (y0 : Int) (y1 : Bool) => (.tuple #[.int .i64 y0, .bool y1] : Value)) hr0) hr1; exact hcc)

set_option maxHeartbeats 8000000 in
set_option maxRecDepth 100000 in
theorem rcheck_ok (l : List DPoint) (al : Option Addr) (cl : Nat) : Fn0 Try.prog 24 [.slice al l.length cl] (fun w => Rd tPoint w al cl l) (.int .i64 (Rg.check l)) := by
  refine fn0 (nt := 34) (F0 := [(0, .slice al l.length cl)]) Try.func24 rfl Try.ntmps24 rfl rfl (fun w0 hpre => ?_)
  have hl := hpre
  have hlhl := hl.2.1
  refine c_seq ?_
  refine c_region ?_
  refine o_pure (p_assign (v := .int .i64 0) rfl) rfl rfl rfl ?_
  refine o_nil ?_
  refine q_then ?_
  refine c_seq ?_
  refine c_seq ?_
  refine c_region ?_
  refine o_pure (p_move (v := .slice al l.length cl) rfl) rfl rfl rfl ?_
  refine o_pure (p_len_slice (len := l.length) rfl rfl Try.underlying22) rfl rfl rfl ?_
  refine o_pure (p_gt (p := (l.length : Int)) (q := 60) rfl rfl) rfl rfl rfl ?_
  refine o_nil ?_
  refine q_then ?_
  refine c_cond (b := decide (60 < (l.length : Int))) rfl (fun hc1 => ?_) (fun hc1 => ?_)
  · simp only [decide_eq_true_eq] at hc1
    refine c_seq ?_
    refine c_region ?_
    refine o_pure (p_assign (v := .int .i64 2) rfl) rfl rfl rfl ?_
    refine o_nil ?_
    refine q_then ?_
    refine c_ret ?_
    refine q_then_ret ?_
    have hr0 : (2 : Int) = (Rg.check l) := by
      first | exact Rg.chk2 (by assumption) | exact hI.bad (by omega) (by omega) (Rg.bad_p _ (by assumption)) | exact hI.low (by omega) (by omega) (Rg.fine_p _ (by assumption)) (by assumption) | exact hI.done (by omega) (by omega)
    refine q_end0 (v := .int .i64 2) (rt1 rfl (r_tmp rfl)) (i := 0) rfl ?_
    exact (by have hcc := congrArg (fun (y0 : Int) => (.int .i64 y0 : Value)) hr0; exact hcc)
  · simp only [decide_eq_false_iff_not, Int.not_lt] at hc1
    refine c_skip ?_
    refine q_then ?_
    refine c_seq ?_
    refine c_region ?_
    refine o_pure (p_assign (v := .int .i64 (-1)) rfl) rfl rfl rfl ?_
    refine o_nil ?_
    refine q_then ?_
    refine c_seq ?_
    refine c_seq ?_
    refine c_region ?_
    refine o_pure (p_move (v := .slice al l.length cl) rfl) rfl rfl rfl ?_
    refine o_pure (p_len_slice (len := l.length) rfl rfl Try.underlying22) rfl rfl rfl ?_
    refine o_pure (p_move (v := .int .i64 0) rfl) rfl rfl rfl ?_
    refine o_nil ?_
    refine q_then ?_
    refine c_block ?_
    refine c_loop (St := Int × Nat)
      (fun ⟨last, k⟩ => [(3, .int .i64 last), (9, .slice al l.length cl), (10, .int .i64 (l.length : Int)), (11, .int .i64 (k : Int))])
      (fun ⟨last, k⟩ => [base w0])
      (fun ⟨last, k⟩ => Rg.CkI l last k)
      (fun ⟨last, k⟩ => l.length - k)
      ((-1), 0) ?_ (Sub.cons rfl (Sub.cons rfl (Sub.cons rfl (Sub.cons rfl (Sub.nil _))))) (fun _ hw => hw) ?_
    · exact Rg.CkI.start _
    rintro ⟨last, k⟩ hI K hK2
    show SC _ _ Try.prog 34 w0 _ _ [(3, .int .i64 last), (9, .slice al l.length cl), (10, .int .i64 (l.length : Int)), (11, .int .i64 (k : Int))] [base w0]
    refine c_seq ?_
    refine c_region ?_
    refine o_pure (p_lt (p := (k : Int)) (q := (l.length : Int)) rfl rfl) rfl rfl rfl ?_
    refine o_nil ?_
    refine q_then ?_
    refine c_seq ?_
    refine c_cond (b := decide ((k : Int) < (l.length : Int))) rfl (fun hc3 => ?_) (fun hc3 => ?_)
    · simp only [decide_eq_true_eq] at hc3
      refine c_skip ?_
      refine q_then ?_
      refine c_seq ?_
      refine c_block ?_
      refine c_seq ?_
      refine c_region ?_
      refine o_pure (p_indexAddr (L := l) (T := tPoint) (i := (k : Int)) rfl rfl (rd_base (i := 0) rfl hl) Try.underlying22 sz35 (by omega) (by omega)) rfl rfl rfl ?_
      refine o_pure (p_loadEn (i := k) (T := tPoint) (L := l) (vs := [.int .i64 ((l[k]).at_), .int .i64 ((l[k]).shard)]) rfl (rd_base (i := 0) rfl hl) (by first | assumption | omega) sh35 rfl) rfl rfl rfl ?_
      refine o_alloc ze35 rfl (fun B4 => ?_)
      refine o_storeN (i := 0) (vs := [.int .i64 ((l[k]).at_), .int .i64 ((l[k]).shard)]) (cs' := [.int .i64 ((l[k]).at_), .int .i64 ((l[k]).shard)]) rfl rfl rfl sz35 rfl rfl rfl rfl ?_
      refine o_nil ?_
      refine q_then ?_
      refine c_seq ?_
      refine c_block ?_
      refine c_seq ?_
      refine c_region ?_
      refine o_pure (p_fieldAddr (B := B4) (j := 0) (j' := 1) rfl fo35_1 rfl) rfl rfl rfl ?_
      refine o_pure (p_load (i := 0) (v := .int .i64 ((l[k]).shard)) rfl rfl sh3 rfl) rfl rfl rfl ?_
      refine o_call0 (v := .bool (Rg.okShard ((l[k]).shard))) rfl (rshard_ok ((l[k]).shard)) hf50 (fun _ _ => trivial) rfl ?_
      refine o_pure (p_not (b := (Rg.okShard ((l[k]).shard))) rfl) rfl rfl rfl ?_
      refine o_pure (p_move (v := .bool (!(Rg.okShard ((l[k]).shard)))) rfl) rfl rfl rfl ?_
      refine o_or (p := 25) 5 (!(Rg.okAt ((l[k]).at_))) ?_ ?_ ?_
      · intro hb5 hk
        simp only [Bool.not_eq_false'] at hb5
        refine o_unguard 20 rfl rfl ?_
        refine o_pure (p_fieldAddr (B := B4) (j := 0) (j' := 0) rfl fo35_0 rfl) rfl rfl rfl ?_
        refine o_unguard 20 rfl rfl ?_
        refine o_pure (p_load (i := 0) (v := .int .i64 ((l[k]).at_)) rfl rfl sh3 rfl) rfl rfl rfl ?_
        refine o_unguard 20 rfl rfl ?_
        refine o_call0 (v := .bool (Rg.okAt ((l[k]).at_))) rfl (rplace_ok ((l[k]).at_)) hf47 (fun _ _ => trivial) rfl ?_
        refine o_unguard 20 rfl rfl ?_
        refine o_pure (p_not (b := (Rg.okAt ((l[k]).at_))) rfl) rfl rfl rfl ?_
        refine o_pure (p_pick_false (v := .bool (!(Rg.okAt ((l[k]).at_)))) rfl rfl) rfl rfl rfl ?_
        exact o_sub (Sub.cons rfl (Sub.skip rfl (Sub.skip rfl (Sub.skip rfl (Sub.skip rfl (Sub.skip rfl (Sub.skip rfl (Sub.refl _)))))))) hk
      · intro hb5 hk
        refine o_guard_no rfl 20 rfl rfl rfl rfl rfl ?_
        refine o_guard_no rfl 20 rfl rfl rfl rfl rfl ?_
        refine o_guard_no rfl 20 rfl rfl rfl rfl rfl ?_
        refine o_guard_no rfl 20 rfl rfl rfl rfl rfl ?_
        refine o_pure (p_pick_true (u := .bool true) rfl rfl) rfl rfl rfl ?_
        exact o_sub (Sub.cons rfl (Sub.skip rfl (Sub.skip rfl (Sub.skip rfl (Sub.skip rfl (Sub.skip rfl (Sub.skip rfl (Sub.refl _)))))))) hk
      refine o_pure (p_assign (v := .bool ((!(Rg.okShard ((l[k]).shard))) || (!(Rg.okAt ((l[k]).at_))))) rfl) rfl rfl rfl ?_
      refine o_nil ?_
      refine q_then ?_
      refine c_cond (b := ((!(Rg.okShard ((l[k]).shard))) || (!(Rg.okAt ((l[k]).at_))))) rfl (fun hc6 => ?_) (fun hc6 => ?_)
      · simp only [Bool.or_eq_true, Bool.not_eq_true'] at hc6
        refine c_seq ?_
        refine c_region ?_
        refine o_pure (p_assign (v := .int .i64 3) rfl) rfl rfl rfl ?_
        refine o_nil ?_
        refine q_then ?_
        refine c_ret ?_
        refine q_block_ret (q_then_ret (q_block_ret (q_then_ret (q_then_ret (q_block_ret (q_then_ret ?_))))))
        have hr0 : (3 : Int) = (Rg.check l) := by
          first | exact Rg.chk2 (by assumption) | exact hI.bad (by omega) (by omega) (Rg.bad_p _ (by assumption)) | exact hI.low (by omega) (by omega) (Rg.fine_p _ (by assumption)) (by assumption) | exact hI.done (by omega) (by omega)
        refine q_end0 (v := .int .i64 3) (rt1 rfl (r_tmp rfl)) (i := 1) rfl ?_
        exact (by have hcc := congrArg (fun (y0 : Int) => (.int .i64 y0 : Value)) hr0; exact hcc)
      · simp only [Bool.or_eq_false_iff, Bool.not_eq_false'] at hc6
        refine c_seq ?_
        refine c_region ?_
        refine o_pure (p_fieldAddr (B := B4) (j := 0) (j' := 0) rfl fo35_0 rfl) rfl rfl rfl ?_
        refine o_pure (p_load (i := 0) (v := .int .i64 ((l[k]).at_)) rfl rfl sh3 rfl) rfl rfl rfl ?_
        refine o_pure (p_move (v := .int .i64 last) rfl) rfl rfl rfl ?_
        refine o_pure (p_le (p := (l[k]).at_) (q := last) rfl rfl) rfl rfl rfl ?_
        refine o_pure (p_assign (v := .bool (decide ((l[k]).at_ ≤ last))) rfl) rfl rfl rfl ?_
        refine o_nil ?_
        refine q_then ?_
        refine c_cond (b := decide ((l[k]).at_ ≤ last)) rfl (fun hc7 => ?_) (fun hc7 => ?_)
        · simp only [decide_eq_true_eq] at hc7
          refine c_seq ?_
          refine c_region ?_
          refine o_pure (p_assign (v := .int .i64 4) rfl) rfl rfl rfl ?_
          refine o_nil ?_
          refine q_then ?_
          refine c_ret ?_
          refine q_block_ret (q_then_ret (q_block_ret (q_then_ret (q_then_ret (q_block_ret (q_then_ret ?_))))))
          have hr0 : (4 : Int) = (Rg.check l) := by
            first | exact Rg.chk2 (by assumption) | exact hI.bad (by omega) (by omega) (Rg.bad_p _ (by assumption)) | exact hI.low (by omega) (by omega) (Rg.fine_p _ (by assumption)) (by assumption) | exact hI.done (by omega) (by omega)
          refine q_end0 (v := .int .i64 4) (rt1 rfl (r_tmp rfl)) (i := 1) rfl ?_
          exact (by have hcc := congrArg (fun (y0 : Int) => (.int .i64 y0 : Value)) hr0; exact hcc)
        · simp only [decide_eq_false_iff_not, Int.not_le] at hc7
          refine c_skip ?_
          refine q_block_normal (q_then ?_)
          refine c_region ?_
          refine o_pure (p_fieldAddr (B := B4) (j := 0) (j' := 0) rfl fo35_0 rfl) rfl rfl rfl ?_
          refine o_pure (p_load (i := 0) (v := .int .i64 ((l[k]).at_)) rfl rfl sh3 rfl) rfl rfl rfl ?_
          refine o_pure (p_assign (v := .int .i64 ((l[k]).at_)) rfl) rfl rfl rfl ?_
          refine o_nil ?_
          refine q_block_normal (q_then ?_)
          refine c_region ?_
          refine o_pure (p_addb (p := (k : Int)) (q := 1) rfl rfl (by omega)) rfl rfl rfl ?_
          refine o_pure (p_move (v := .int .i64 ((k : Int) + 1)) rfl) rfl rfl rfl ?_
          refine o_nil ?_
          refine q_round hK2 ((l[k]).at_, k + 1) ?_ ?_ ?_ ?_
          · clear hK2
            exact hI.next (by omega) (Rg.fine_p _ (by assumption)) (by assumption)
          · (try dsimp only); omega
          · exact Sub.cons rfl (Sub.cons rfl (Sub.cons rfl (Sub.cons rfl (Sub.nil _))))
          · exact fun _ hw => HeapIs.pick hw [1] (by decide) rfl
    · simp only [decide_eq_false_iff_not, Int.not_lt] at hc3
      refine c_exit ?_
      refine q_then_exit (q_then_exit (q_block_exit (q_then ?_)))
      refine c_seq ?_
      refine c_region ?_
      refine o_pure (p_assign (v := .int .i64 0) rfl) rfl rfl rfl ?_
      refine o_nil ?_
      refine q_then ?_
      refine c_ret ?_
      have hr0 : (0 : Int) = (Rg.check l) := by
        first | exact Rg.chk2 (by assumption) | exact hI.bad (by omega) (by omega) (Rg.bad_p _ (by assumption)) | exact hI.low (by omega) (by omega) (Rg.fine_p _ (by assumption)) (by assumption) | exact hI.done (by omega) (by omega)
      refine q_end0 (v := .int .i64 0) (rt1 rfl (r_tmp rfl)) (i := 0) rfl ?_
      exact (by have hcc := congrArg (fun (y0 : Int) => (.int .i64 y0 : Value)) hr0; exact hcc)

set_option maxHeartbeats 8000000 in
set_option maxRecDepth 100000 in
theorem rowner_ok (l : List DPoint) (al : Option Addr) (cl : Nat) (a : Int) : Fn0 Try.prog 15 [.slice al l.length cl, .int .i64 a] (fun w => Rd tPoint w al cl l) (.tuple #[.int .i64 (Rg.owner l a), .int .i64 (Rg.ownErr l a)]) := by
  refine fn0 (nt := 37) (F0 := [(0, .slice al l.length cl), (1, .int .i64 a)]) Try.func15 rfl Try.ntmps15 rfl rfl (fun w0 hpre => ?_)
  have hl := hpre
  have hlhl := hl.2.1
  refine c_seq ?_
  refine c_region ?_
  refine o_pure (p_assign (v := .int .i64 0) rfl) rfl rfl rfl ?_
  refine o_pure (p_assign (v := .int .i64 0) rfl) rfl rfl rfl ?_
  refine o_nil ?_
  refine q_then ?_
  refine c_seq ?_
  refine c_region ?_
  refine o_pure (p_move (v := .slice al l.length cl) rfl) rfl rfl rfl ?_
  refine o_call0 (v := .int .i64 (Rg.check l)) rfl (rcheck_ok l al cl) hf24 (fun w hw => (rd_base (i := 0) rfl hl) w hw) rfl ?_
  refine o_pure (p_assign (v := .int .i64 (Rg.check l)) rfl) rfl rfl rfl ?_
  refine o_nil ?_
  refine q_then ?_
  refine c_seq ?_
  refine c_block ?_
  refine c_seq ?_
  refine c_region ?_
  refine o_pure (p_move (v := .int .i64 (Rg.check l)) rfl) rfl rfl rfl ?_
  refine o_pure (p_ne (p := (Rg.check l)) (q := 0) rfl rfl) rfl rfl rfl ?_
  refine o_pure (p_assign (v := .bool ((Rg.check l) != 0)) rfl) rfl rfl rfl ?_
  refine o_nil ?_
  refine q_then ?_
  refine c_cond (b := ((Rg.check l) != 0)) rfl (fun hc1 => ?_) (fun hc1 => ?_)
  · simp only [bne_iff_ne, ne_eq] at hc1
    refine c_seq ?_
    refine c_region ?_
    refine o_pure (p_move (v := .int .i64 (Rg.check l)) rfl) rfl rfl rfl ?_
    refine o_pure (p_assign (v := .int .i64 0) rfl) rfl rfl rfl ?_
    refine o_pure (p_assign (v := .int .i64 (Rg.check l)) rfl) rfl rfl rfl ?_
    refine o_nil ?_
    refine q_then ?_
    refine c_ret ?_
    refine q_block_ret (q_then_ret ?_)
    obtain ⟨hv1, hv2⟩ : _ ∧ _ := by first | exact Rg.ow1 (l := l) (a := a) (by assumption) | exact Rg.ow2 (l := l) (a := a) hck (by assumption) | exact Rg.ow3 (l := l) (a := a) hck (by assumption) (by omega) | exact Rg.ow4 (l := l) (a := a) hck (by assumption) hpos
    have hr0 : (0 : Int) = (Rg.owner l a) := by
      first | exact hv1.symm | exact hv2.symm | (rw [hv1]; unfold Rg.ownGo; simp only [hmod, Int.toNat_natCast]; rw [← getd_at hix default])
    have hr1 : ((Rg.check l) : Int) = (Rg.ownErr l a) := by
      first | exact hv1.symm | exact hv2.symm | (rw [hv1]; unfold Rg.ownGo; simp only [hmod, Int.toNat_natCast]; rw [← getd_at hix default])
    refine q_end0 (v := .tuple #[.int .i64 0, .int .i64 (Rg.check l)]) (rt2 rfl (r_tmp rfl) (r_tmp rfl)) (i := 0) rfl ?_
    exact (by have hcc := congr (congrArg (fun (y0 : Int) (y1 : Int) => (.tuple #[.int .i64 y0, .int .i64 y1] : Value)) hr0) hr1; exact hcc)
  · simp only [bne_eq_false_iff_eq] at hc1
    have hck := hc1
    have hok := Rg.check_ok.1 hck
    have hlen := hok.len
    refine c_seq ?_
    refine c_region ?_
    refine o_pure (p_move (v := .int .i64 a) rfl) rfl rfl rfl ?_
    refine o_call0 (v := .bool (Rg.okAt a)) rfl (rplace_ok a) hf47 (fun _ _ => trivial) rfl ?_
    refine o_pure (p_not (b := (Rg.okAt a)) rfl) rfl rfl rfl ?_
    refine o_pure (p_assign (v := .bool (!(Rg.okAt a))) rfl) rfl rfl rfl ?_
    refine o_nil ?_
    refine q_then ?_
    refine c_cond (b := (!(Rg.okAt a))) rfl (fun hc2 => ?_) (fun hc2 => ?_)
    · simp only [Bool.not_eq_true'] at hc2
      refine c_seq ?_
      refine c_region ?_
      refine o_pure (p_assign (v := .int .i64 0) rfl) rfl rfl rfl ?_
      refine o_pure (p_assign (v := .int .i64 3) rfl) rfl rfl rfl ?_
      refine o_nil ?_
      refine q_then ?_
      refine c_ret ?_
      refine q_block_ret (q_then_ret ?_)
      obtain ⟨hv1, hv2⟩ : _ ∧ _ := by first | exact Rg.ow1 (l := l) (a := a) (by assumption) | exact Rg.ow2 (l := l) (a := a) hck (by assumption) | exact Rg.ow3 (l := l) (a := a) hck (by assumption) (by omega) | exact Rg.ow4 (l := l) (a := a) hck (by assumption) hpos
      have hr0 : (0 : Int) = (Rg.owner l a) := by
        first | exact hv1.symm | exact hv2.symm | (rw [hv1]; unfold Rg.ownGo; simp only [hmod, Int.toNat_natCast]; rw [← getd_at hix default])
      have hr1 : (3 : Int) = (Rg.ownErr l a) := by
        first | exact hv1.symm | exact hv2.symm | (rw [hv1]; unfold Rg.ownGo; simp only [hmod, Int.toNat_natCast]; rw [← getd_at hix default])
      refine q_end0 (v := .tuple #[.int .i64 0, .int .i64 3]) (rt2 rfl (r_tmp rfl) (r_tmp rfl)) (i := 0) rfl ?_
      exact (by have hcc := congr (congrArg (fun (y0 : Int) (y1 : Int) => (.tuple #[.int .i64 y0, .int .i64 y1] : Value)) hr0) hr1; exact hcc)
    · simp only [Bool.not_eq_false'] at hc2
      refine c_seq ?_
      refine c_region ?_
      refine o_pure (p_move (v := .slice al l.length cl) rfl) rfl rfl rfl ?_
      refine o_pure (p_len_slice (len := l.length) rfl rfl Try.underlying22) rfl rfl rfl ?_
      refine o_pure (p_eq (p := (l.length : Int)) (q := 0) rfl rfl) rfl rfl rfl ?_
      refine o_pure (p_assign (v := .bool ((l.length : Int) == 0)) rfl) rfl rfl rfl ?_
      refine o_nil ?_
      refine q_then ?_
      refine c_cond (b := ((l.length : Int) == 0)) rfl (fun hc3 => ?_) (fun hc3 => ?_)
      · simp only [beq_iff_eq] at hc3
        refine c_seq ?_
        refine c_region ?_
        refine o_pure (p_assign (v := .int .i64 0) rfl) rfl rfl rfl ?_
        refine o_pure (p_assign (v := .int .i64 5) rfl) rfl rfl rfl ?_
        refine o_nil ?_
        refine q_then ?_
        refine c_ret ?_
        refine q_block_ret (q_then_ret ?_)
        obtain ⟨hv1, hv2⟩ : _ ∧ _ := by first | exact Rg.ow1 (l := l) (a := a) (by assumption) | exact Rg.ow2 (l := l) (a := a) hck (by assumption) | exact Rg.ow3 (l := l) (a := a) hck (by assumption) (by omega) | exact Rg.ow4 (l := l) (a := a) hck (by assumption) hpos
        have hr0 : (0 : Int) = (Rg.owner l a) := by
          first | exact hv1.symm | exact hv2.symm | (rw [hv1]; unfold Rg.ownGo; simp only [hmod, Int.toNat_natCast]; rw [← getd_at hix default])
        have hr1 : (5 : Int) = (Rg.ownErr l a) := by
          first | exact hv1.symm | exact hv2.symm | (rw [hv1]; unfold Rg.ownGo; simp only [hmod, Int.toNat_natCast]; rw [← getd_at hix default])
        refine q_end0 (v := .tuple #[.int .i64 0, .int .i64 5]) (rt2 rfl (r_tmp rfl) (r_tmp rfl)) (i := 0) rfl ?_
        exact (by have hcc := congr (congrArg (fun (y0 : Int) (y1 : Int) => (.tuple #[.int .i64 y0, .int .i64 y1] : Value)) hr0) hr1; exact hcc)
      · simp only [beq_eq_false_iff_ne, ne_eq] at hc3
        have hpos : 0 < l.length := by omega
        have hix := Rg.ix_lt hpos a
        have hmod : ((lowF (fun x => (fun (x : DPoint) (y : Int) => cmpI x.at_ y) x a) l : Nat) : Int).tmod (l.length : Int) = (Rg.ownIx l a : Int) := Rg.ix_mod hpos a
        refine c_skip ?_
        refine q_block_normal (q_then ?_)
        refine c_seq ?_
        refine c_region ?_
        refine o_pure (p_move (v := .slice al l.length cl) rfl) rfl rfl rfl ?_
        refine o_pure (p_move (v := .int .i64 a) rfl) rfl rfl rfl ?_
        refine o_call0 (v := .tuple #[.int .i64 (lowF (fun x => (fun (x : DPoint) (y : Int) => (cmpI x.at_ y)) x a) l : Int), .bool (hitF (fun x => (fun (x : DPoint) (y : Int) => (cmpI x.at_ y)) x a) l)]) rfl (bsearch_ok l al cl a 49 [] (fun x y => (cmpI x.at_ y)) (fun _ => True) (fun _ _ _ h => h) (fun x y => rbyAt_ok x y) hf49 (by first | assumption | exact Rg.split_at hok.fine.sorted _ | exact Rg.split_at hI.fine.sorted _)) hf48 (fun w hw => ⟨(rd_base (i := 0) rfl hl) w hw, trivial⟩) rfl ?_
        refine o_pure (p_move (v := .tuple #[.int .i64 (lowF (fun x => (fun (x : DPoint) (y : Int) => (cmpI x.at_ y)) x a) l : Int), .bool (hitF (fun x => (fun (x : DPoint) (y : Int) => (cmpI x.at_ y)) x a) l)]) rfl) rfl rfl rfl ?_
        refine o_pure (p_extract (vs := [.int .i64 (lowF (fun x => (fun (x : DPoint) (y : Int) => (cmpI x.at_ y)) x a) l : Int), .bool (hitF (fun x => (fun (x : DPoint) (y : Int) => (cmpI x.at_ y)) x a) l)]) (v := .int .i64 (lowF (fun x => (fun (x : DPoint) (y : Int) => (cmpI x.at_ y)) x a) l : Int)) rfl rfl) rfl rfl rfl ?_
        refine o_pure (p_extract (vs := [.int .i64 (lowF (fun x => (fun (x : DPoint) (y : Int) => (cmpI x.at_ y)) x a) l : Int), .bool (hitF (fun x => (fun (x : DPoint) (y : Int) => (cmpI x.at_ y)) x a) l)]) (v := .bool (hitF (fun x => (fun (x : DPoint) (y : Int) => (cmpI x.at_ y)) x a) l)) rfl rfl) rfl rfl rfl ?_
        refine o_pure (p_assign (v := .int .i64 (lowF (fun x => (fun (x : DPoint) (y : Int) => (cmpI x.at_ y)) x a) l : Int)) rfl) rfl rfl rfl ?_
        refine o_pure (p_assign (v := .bool (hitF (fun x => (fun (x : DPoint) (y : Int) => (cmpI x.at_ y)) x a) l)) rfl) rfl rfl rfl ?_
        refine o_nil ?_
        refine q_then ?_
        refine c_seq ?_
        refine c_region ?_
        refine o_pure (p_move (v := .slice al l.length cl) rfl) rfl rfl rfl ?_
        refine o_pure (p_move (v := .int .i64 (lowF (fun x => (fun (x : DPoint) (y : Int) => (cmpI x.at_ y)) x a) l : Int)) rfl) rfl rfl rfl ?_
        refine o_pure (p_move (v := .slice al l.length cl) rfl) rfl rfl rfl ?_
        refine o_pure (p_len_slice (len := l.length) rfl rfl Try.underlying22) rfl rfl rfl ?_
        refine o_pure (p_rem (p := (lowF (fun x => (fun (x : DPoint) (y : Int) => (cmpI x.at_ y)) x a) l : Int)) (q := (l.length : Int)) rfl rfl (by omega)) rfl rfl rfl ?_
        refine o_pure (p_indexAddr (L := l) (T := tPoint) (i := ((lowF (fun x => (fun (x : DPoint) (y : Int) => (cmpI x.at_ y)) x a) l : Int).tmod (l.length : Int))) rfl rfl (rd_base (i := 0) rfl hl) Try.underlying22 sz35 (by omega) (by omega)) rfl rfl rfl ?_
        refine o_pure (p_fieldAddrE rfl fo35_1) rfl rfl rfl ?_
        refine o_pure (p_loadF (i := ((lowF (fun x => (fun (x : DPoint) (y : Int) => (cmpI x.at_ y)) x a) l : Int).tmod (l.length : Int)).toNat) (j := 1) (T := tPoint) (L := l) (v := .int .i64 ((l[((lowF (fun x => (fun (x : DPoint) (y : Int) => (cmpI x.at_ y)) x a) l : Int).tmod (l.length : Int)).toNat]).shard)) rfl (rd_base (i := 0) rfl hl) (by first | assumption | omega) sh3 rfl) rfl rfl rfl ?_
        refine o_pure (p_assign (v := .int .i64 ((l[((lowF (fun x => (fun (x : DPoint) (y : Int) => (cmpI x.at_ y)) x a) l : Int).tmod (l.length : Int)).toNat]).shard)) rfl) rfl rfl rfl ?_
        refine o_pure (p_assign (v := .int .i64 0) rfl) rfl rfl rfl ?_
        refine o_nil ?_
        refine q_then ?_
        refine c_ret ?_
        obtain ⟨hv1, hv2⟩ : _ ∧ _ := by first | exact Rg.ow1 (l := l) (a := a) (by assumption) | exact Rg.ow2 (l := l) (a := a) hck (by assumption) | exact Rg.ow3 (l := l) (a := a) hck (by assumption) (by omega) | exact Rg.ow4 (l := l) (a := a) hck (by assumption) hpos
        have hr0 : ((l[((lowF (fun x => (fun (x : DPoint) (y : Int) => (cmpI x.at_ y)) x a) l : Int).tmod (l.length : Int)).toNat]).shard : Int) = (Rg.owner l a) := by
          first | exact hv1.symm | exact hv2.symm | (rw [hv1]; unfold Rg.ownGo; simp only [hmod, Int.toNat_natCast]; rw [← getd_at hix default])
        have hr1 : (0 : Int) = (Rg.ownErr l a) := by
          first | exact hv1.symm | exact hv2.symm | (rw [hv1]; unfold Rg.ownGo; simp only [hmod, Int.toNat_natCast]; rw [← getd_at hix default])
        refine q_end0 (v := .tuple #[.int .i64 ((l[((lowF (fun x => (fun (x : DPoint) (y : Int) => (cmpI x.at_ y)) x a) l : Int).tmod (l.length : Int)).toNat]).shard), .int .i64 0]) (rt2 rfl (r_tmp rfl) (r_tmp rfl)) (i := 0) rfl ?_
        exact (by have hcc := congr (congrArg (fun (y0 : Int) (y1 : Int) => (.tuple #[.int .i64 y0, .int .i64 y1] : Value)) hr0) hr1; exact hcc)
end Go.Proofs.Ytgjdmnljnimamaa
