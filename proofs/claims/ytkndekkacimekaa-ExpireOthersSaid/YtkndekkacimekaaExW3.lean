/- The walks, printed by a program from the translation and a specification. -/
import Derived.Test.YtkndekkacimekaaExF
import Derived.Test.YtkndekkacimekaaExLaw2
import Derived.Test.YtkndekkacimekaaExW2
namespace Go.Proofs.Ytkndekkacimekaa
open Go.Sx Go.RowKit
set_option maxHeartbeats 8000000 in
set_option maxRecDepth 100000 in
theorem bsearch_ok (l : List DEntry) (al : Option Addr) (cl : Nat) (target : Int) (gf : FuncId) (kf : List Value) (f : DEntry → Int → Int) (Pf : World → Prop) (stf : ∀ w w', Below w.heap.size w w' → Pf w → Pf w') (okf : ∀ (x : DEntry) (y : Int), Fn0 Try.prog gf (.agg #[.int .i64 x.key, .int .i64 x.value, .int .i64 x.till] :: .int .i64 y :: kf) Pf (.int .i64 (f x y))) (hpf : HasFn Try.prog gf) (hy1 : Split (fun x => f x target) l) : Fn0 Try.prog 80 [.slice al l.length cl, .int .i64 target, .func (.func gf) #[] kf.toArray] (fun w => Rd tEntry w al cl l ∧ Pf w) (.tuple #[.int .i64 (lowF (fun x => f x target) l : Int), .bool (hitF (fun x => f x target) l)]) := by
  refine fn0 (nt := 49) (F0 := [(0, .slice al l.length cl), (1, .int .i64 target), (2, .func (.func gf) #[] kf.toArray)]) Try.func80 rfl Try.ntmps80 rfl rfl (fun w0 hpre => ?_)
  obtain ⟨hl, hf⟩ := hpre
  have hlhl := hl.2.1
  refine c_seq ?_
  refine c_region ?_
  refine o_pure (p_assign (v := .int .i64 0) rfl) rfl rfl rfl ?_
  refine o_pure (p_assign (v := .bool false) rfl) rfl rfl rfl ?_
  refine o_nil ?_
  refine q_then ?_
  refine c_seq ?_
  refine c_region ?_
  refine o_pure (p_move (v := .slice al l.length cl) rfl) rfl rfl rfl ?_
  refine o_pure (p_len_slice (len := l.length) rfl rfl Try.underlying22) rfl rfl rfl ?_
  refine o_pure (p_assign (v := .int .i64 (l.length : Int)) rfl) rfl rfl rfl ?_
  refine o_nil ?_
  refine q_then ?_
  refine c_seq ?_
  refine c_region ?_
  refine o_pure (p_move (v := .int .i64 (l.length : Int)) rfl) rfl rfl rfl ?_
  refine o_pure (p_assign (v := .int .i64 0) rfl) rfl rfl rfl ?_
  refine o_pure (p_assign (v := .int .i64 (l.length : Int)) rfl) rfl rfl rfl ?_
  refine o_nil ?_
  refine q_then ?_
  refine c_seq ?_
  refine c_block ?_
  refine c_loop (St := Int × Int)
    (fun ⟨i, j⟩ => [(0, .slice al l.length cl), (1, .int .i64 target), (2, .func (.func gf) #[] kf.toArray), (8, .int .i64 (l.length : Int)), (9, .int .i64 i), (10, .int .i64 j)])
    (fun ⟨i, j⟩ => [base w0])
    (fun ⟨i, j⟩ => LowI (fun x => f x target) l i j)
    (fun ⟨i, j⟩ => (j - i).toNat)
    (0, (l.length : Int)) ?_ (Sub.cons rfl (Sub.cons rfl (Sub.cons rfl (Sub.cons rfl (Sub.cons rfl (Sub.cons rfl (Sub.nil _))))))) (fun _ hw => hw) ?_
  · exact LowI.start _ _
  rintro ⟨i, j⟩ hI K hK1
  have h0 := hI.i0
  have h1 := hI.ij
  have h2 := hI.jl
  have hh := half_eq h0 h1 (by omega)
  show SC _ _ Try.prog 49 w0 _ _ [(0, .slice al l.length cl), (1, .int .i64 target), (2, .func (.func gf) #[] kf.toArray), (8, .int .i64 (l.length : Int)), (9, .int .i64 i), (10, .int .i64 j)] [base w0]
  refine c_seq ?_
  refine c_seq ?_
  refine c_region ?_
  refine o_pure (p_move (v := .int .i64 i) rfl) rfl rfl rfl ?_
  refine o_pure (p_move (v := .int .i64 j) rfl) rfl rfl rfl ?_
  refine o_pure (p_lt (p := i) (q := j) rfl rfl) rfl rfl rfl ?_
  refine o_nil ?_
  refine q_then ?_
  refine c_cond (b := decide (i < j)) rfl (fun hc2 => ?_) (fun hc2 => ?_)
  · simp only [decide_eq_true_eq] at hc2
    refine c_skip ?_
    refine q_then ?_
    refine c_block ?_
    refine c_seq ?_
    refine c_region ?_
    refine o_pure (p_move (v := .int .i64 i) rfl) rfl rfl rfl ?_
    refine o_pure (p_move (v := .int .i64 j) rfl) rfl rfl rfl ?_
    refine o_pure (p_addb (p := i) (q := j) rfl rfl (by omega)) rfl rfl rfl ?_
    refine o_pure (pu_conv (z := (i + j)) rfl Try.underlying3 Try.underlying146) rfl rfl rfl ?_
    refine o_pure (pu_shr (p := (toU (i + j))) (m := 1) rfl rfl rfl) rfl rfl rfl ?_
    refine o_pure (p_conv (z := ((shrU (toU (i + j)) 1).toNat : Int)) rfl Try.underlying146 Try.underlying3) rfl rfl rfl ?_
    refine o_pure (p_assign (v := .int .i64 (IntKind.i64.wrap ((shrU (toU (i + j)) 1).toNat : Int))) rfl) rfl rfl rfl ?_
    refine o_nil ?_
    refine q_then ?_
    refine c_seq ?_
    refine c_region ?_
    refine o_pure (p_move (v := .func (.func gf) #[] kf.toArray) rfl) rfl rfl rfl ?_
    refine o_pure (p_move (v := .slice al l.length cl) rfl) rfl rfl rfl ?_
    refine o_pure (p_move (v := .int .i64 (IntKind.i64.wrap ((shrU (toU (i + j)) 1).toNat : Int))) rfl) rfl rfl rfl ?_
    refine o_pure (p_indexAddr (L := l) (T := tEntry) (i := (IntKind.i64.wrap ((shrU (toU (i + j)) 1).toNat : Int))) rfl rfl (rd_base (i := 0) rfl hl) Try.underlying22 sz42 (by omega) (by omega)) rfl rfl rfl ?_
    refine o_pure (p_loadEn (i := (IntKind.i64.wrap ((shrU (toU (i + j)) 1).toNat : Int)).toNat) (T := tEntry) (L := l) (vs := [.int .i64 ((l.getD ((IntKind.i64.wrap ((shrU (toU (i + j)) 1).toNat : Int)).toNat) default).key), .int .i64 ((l.getD ((IntKind.i64.wrap ((shrU (toU (i + j)) 1).toNat : Int)).toNat) default).value), .int .i64 ((l.getD ((IntKind.i64.wrap ((shrU (toU (i + j)) 1).toNat : Int)).toNat) default).till)]) rfl (rd_base (i := 0) rfl hl) (by first | assumption | omega) sh42 (congrArg tEntry.enc (getd_at (by first | assumption | omega) default))) rfl rfl rfl ?_
    refine o_pure (p_move (v := .int .i64 target) rfl) rfl rfl rfl ?_
    refine o_call0V (vs := [.agg #[.int .i64 ((l.getD ((IntKind.i64.wrap ((shrU (toU (i + j)) 1).toNat : Int)).toNat) default).key), .int .i64 ((l.getD ((IntKind.i64.wrap ((shrU (toU (i + j)) 1).toNat : Int)).toNat) default).value), .int .i64 ((l.getD ((IntKind.i64.wrap ((shrU (toU (i + j)) 1).toNat : Int)).toNat) default).till)], .int .i64 target]) (caps := kf) (v := .int .i64 (f (l.getD ((IntKind.i64.wrap ((shrU (toU (i + j)) 1).toNat : Int)).toNat) default) target)) rfl rfl (okf (l.getD ((IntKind.i64.wrap ((shrU (toU (i + j)) 1).toNat : Int)).toNat) default) target) hpf (pre_base (i := 0) rfl stf hf) rfl ?_
    refine o_pure (p_lt (p := (f (l.getD ((IntKind.i64.wrap ((shrU (toU (i + j)) 1).toNat : Int)).toNat) default) target)) (q := 0) rfl rfl) rfl rfl rfl ?_
    refine o_nil ?_
    refine q_then ?_
    refine c_cond (b := decide ((f (l.getD ((IntKind.i64.wrap ((shrU (toU (i + j)) 1).toNat : Int)).toNat) default) target) < 0)) rfl (fun hc3 => ?_) (fun hc3 => ?_)
    · simp only [decide_eq_true_eq] at hc3
      refine c_region ?_
      refine o_pure (p_move (v := .int .i64 (IntKind.i64.wrap ((shrU (toU (i + j)) 1).toNat : Int))) rfl) rfl rfl rfl ?_
      refine o_pure (p_addb (p := (IntKind.i64.wrap ((shrU (toU (i + j)) 1).toNat : Int))) (q := 1) rfl rfl (by omega)) rfl rfl rfl ?_
      refine o_pure (p_assign (v := .int .i64 ((IntKind.i64.wrap ((shrU (toU (i + j)) 1).toNat : Int)) + 1)) rfl) rfl rfl rfl ?_
      refine o_nil ?_
      refine q_block_normal ?_
      refine q_round hK1 (((IntKind.i64.wrap ((shrU (toU (i + j)) 1).toNat : Int)) + 1), j) ?_ ?_ ?_ ?_
      · clear hK1
        first | exact hI.up hy1 (by omega) (by omega) (by omega) (by rw [getd_at (by omega) default]; assumption) | exact hI.down hy1 (by omega) (by omega) (by omega) (by rw [getd_at (by omega) default]; assumption)
      · (try dsimp only); omega
      · exact Sub.cons rfl (Sub.cons rfl (Sub.cons rfl (Sub.cons rfl (Sub.cons rfl (Sub.cons rfl (Sub.nil _))))))
      · exact fun _ hw => HeapIs.pick hw [0] (by decide) rfl
    · simp only [decide_eq_false_iff_not, Int.not_lt] at hc3
      refine c_region ?_
      refine o_pure (p_move (v := .int .i64 (IntKind.i64.wrap ((shrU (toU (i + j)) 1).toNat : Int))) rfl) rfl rfl rfl ?_
      refine o_pure (p_assign (v := .int .i64 (IntKind.i64.wrap ((shrU (toU (i + j)) 1).toNat : Int))) rfl) rfl rfl rfl ?_
      refine o_nil ?_
      refine q_block_normal ?_
      refine q_round hK1 (i, (IntKind.i64.wrap ((shrU (toU (i + j)) 1).toNat : Int))) ?_ ?_ ?_ ?_
      · clear hK1
        first | exact hI.up hy1 (by omega) (by omega) (by omega) (by rw [getd_at (by omega) default]; assumption) | exact hI.down hy1 (by omega) (by omega) (by omega) (by rw [getd_at (by omega) default]; assumption)
      · (try dsimp only); omega
      · exact Sub.cons rfl (Sub.cons rfl (Sub.cons rfl (Sub.cons rfl (Sub.cons rfl (Sub.cons rfl (Sub.nil _))))))
      · exact fun _ hw => HeapIs.pick hw [0] (by decide) rfl
  · simp only [decide_eq_false_iff_not, Int.not_lt] at hc2
    refine c_exit ?_
    refine q_then_exit (q_then_exit (q_block_exit (q_then ?_)))
    refine c_seq ?_
    refine c_region ?_
    refine o_pure (p_move (v := .int .i64 i) rfl) rfl rfl rfl ?_
    refine o_pure (p_move (v := .int .i64 i) rfl) rfl rfl rfl ?_
    refine o_pure (p_move (v := .int .i64 (l.length : Int)) rfl) rfl rfl rfl ?_
    refine o_pure (p_lt (p := i) (q := (l.length : Int)) rfl rfl) rfl rfl rfl ?_
    refine o_pure (p_move (v := .bool (decide (i < (l.length : Int)))) rfl) rfl rfl rfl ?_
    refine o_and (p := 48) 9 ((f (l.getD i.toNat default) target) == 0) ?_ ?_ ?_
    · intro hb4 hk
      simp only [decide_eq_true_eq] at hb4
      refine o_unguard 39 rfl rfl ?_
      refine o_pure (p_move (v := .func (.func gf) #[] kf.toArray) rfl) rfl rfl rfl ?_
      refine o_unguard 39 rfl rfl ?_
      refine o_pure (p_move (v := .slice al l.length cl) rfl) rfl rfl rfl ?_
      refine o_unguard 39 rfl rfl ?_
      refine o_pure (p_move (v := .int .i64 i) rfl) rfl rfl rfl ?_
      refine o_unguard 39 rfl rfl ?_
      refine o_pure (p_indexAddr (L := l) (T := tEntry) (i := i) rfl rfl (rd_base (i := 0) rfl hl) Try.underlying22 sz42 (by omega) (by omega)) rfl rfl rfl ?_
      refine o_unguard 39 rfl rfl ?_
      refine o_pure (p_loadEn (i := i.toNat) (T := tEntry) (L := l) (vs := [.int .i64 ((l.getD i.toNat default).key), .int .i64 ((l.getD i.toNat default).value), .int .i64 ((l.getD i.toNat default).till)]) rfl (rd_base (i := 0) rfl hl) (by first | assumption | omega) sh42 (congrArg tEntry.enc (getd_at (by first | assumption | omega) default))) rfl rfl rfl ?_
      refine o_unguard 39 rfl rfl ?_
      refine o_pure (p_move (v := .int .i64 target) rfl) rfl rfl rfl ?_
      refine o_unguard 39 rfl rfl ?_
      refine o_call0V (vs := [.agg #[.int .i64 ((l.getD i.toNat default).key), .int .i64 ((l.getD i.toNat default).value), .int .i64 ((l.getD i.toNat default).till)], .int .i64 target]) (caps := kf) (v := .int .i64 (f (l.getD i.toNat default) target)) rfl rfl (okf (l.getD i.toNat default) target) hpf (pre_base (i := 0) rfl stf hf) rfl ?_
      refine o_unguard 39 rfl rfl ?_
      refine o_pure (p_eq (p := (f (l.getD i.toNat default) target)) (q := 0) rfl rfl) rfl rfl rfl ?_
      refine o_pure (p_pick_true (u := .bool ((f (l.getD i.toNat default) target) == 0)) rfl rfl) rfl rfl rfl ?_
      exact o_sub (Sub.cons rfl (Sub.skip rfl (Sub.skip rfl (Sub.skip rfl (Sub.skip rfl (Sub.skip rfl (Sub.skip rfl (Sub.skip rfl (Sub.skip rfl (Sub.skip rfl (Sub.skip rfl (Sub.refl _)))))))))))) hk
    · intro hb4 hk
      refine o_guard_no rfl 39 rfl rfl rfl rfl rfl ?_
      refine o_guard_no rfl 39 rfl rfl rfl rfl rfl ?_
      refine o_guard_no rfl 39 rfl rfl rfl rfl rfl ?_
      refine o_guard_no rfl 39 rfl rfl rfl rfl rfl ?_
      refine o_guard_no rfl 39 rfl rfl rfl rfl rfl ?_
      refine o_guard_no rfl 39 rfl rfl rfl rfl rfl ?_
      refine o_guard_no rfl 39 rfl rfl rfl rfl rfl ?_
      refine o_guard_no rfl 39 rfl rfl rfl rfl rfl ?_
      refine o_pure (p_pick_false (v := .bool false) rfl rfl) rfl rfl rfl ?_
      exact o_sub (Sub.cons rfl (Sub.skip rfl (Sub.skip rfl (Sub.skip rfl (Sub.skip rfl (Sub.skip rfl (Sub.skip rfl (Sub.skip rfl (Sub.skip rfl (Sub.skip rfl (Sub.skip rfl (Sub.refl _)))))))))))) hk
    refine o_pure (p_assign (v := .int .i64 i) rfl) rfl rfl rfl ?_
    refine o_pure (p_assign (v := .bool (decide (i < (l.length : Int)) && ((f (l.getD i.toNat default) target) == 0))) rfl) rfl rfl rfl ?_
    refine o_nil ?_
    refine q_then ?_
    refine c_ret ?_
    have hr0 : (i : Int) = (lowF (fun x => f x target) l : Int) := by
      exact hI.done (by omega)
    have hr1 : ((decide (i < (l.length : Int)) && ((f (l.getD i.toNat default) target) == 0)) : Bool) = (hitF (fun x => f x target) l) := by
      exact hit_eq (f := fun x => f x target) (hI.done (by omega))
    refine q_end0 (v := .tuple #[.int .i64 i, .bool (decide (i < (l.length : Int)) && ((f (l.getD i.toNat default) target) == 0))]) (rt2 rfl (r_tmp rfl) (r_tmp rfl)) (i := 0) rfl ?_
    exact (by have hcc := congr (congrArg (fun (y0 : Int) (y1 : Bool) => (.tuple #[.int .i64 y0, .bool y1] : Value)) hr0) hr1; exact hcc)

set_option maxHeartbeats 8000000 in
set_option maxRecDepth 100000 in
theorem efind1_ok (x : DEntry) (key : Int) : Fn0 Try.prog 81 [.agg #[.int .i64 x.key, .int .i64 x.value, .int .i64 x.till], .int .i64 key] (fun _ => True) (.int .i64 (cmpI x.key key)) := by
  refine fn0 (nt := 9) (F0 := [(0, .agg #[.int .i64 x.key, .int .i64 x.value, .int .i64 x.till]), (1, .int .i64 key)]) Try.func81 rfl Try.ntmps81 rfl rfl (fun w0 hpre => ?_)
  refine c_seq ?_
  refine c_region ?_
  refine o_box (v := .agg #[.int .i64 x.key, .int .i64 x.value, .int .i64 x.till]) rfl rfl (fun B1 => ?_)
  refine o_pure (p_assign (v := .int .i64 0) rfl) rfl rfl rfl ?_
  refine o_nil ?_
  refine q_then ?_
  refine c_seq ?_
  refine c_region ?_
  refine o_pure (p_fieldAddr (B := B1) (j := 0) (j' := 0) rfl fo42_0 rfl) rfl rfl rfl ?_
  refine o_pure (p_load (i := 0) (v := .int .i64 x.key) rfl rfl sh3 rfl) rfl rfl rfl ?_
  refine o_pure (p_move (v := .int .i64 key) rfl) rfl rfl rfl ?_
  refine o_call0 (v := .int .i64 (cmpI x.key key)) rfl (compare_ok x.key key) hf55 (fun _ _ => trivial) rfl ?_
  refine o_pure (p_assign (v := .int .i64 (cmpI x.key key)) rfl) rfl rfl rfl ?_
  refine o_nil ?_
  refine q_then ?_
  refine c_ret ?_
  refine q_end0 (v := .int .i64 (cmpI x.key key)) (rt1 rfl (r_tmp rfl)) (i := 1) rfl ?_
  exact rfl

set_option maxHeartbeats 8000000 in
set_option maxRecDepth 100000 in
theorem efind_ok (l : List DEntry) (al : Option Addr) (cl : Nat) (key : Int) (hy1 : Exp.le_ l) : Fn0 Try.prog 49 [.slice al l.length cl, .int .i64 key] (fun w => Rd tEntry w al cl l) (.tuple #[.int .i64 (Exp.findAt l key : Int), .bool (Exp.findIs l key)]) := by
  refine fn0 (nt := 11) (F0 := [(0, .slice al l.length cl), (1, .int .i64 key)]) Try.func49 rfl Try.ntmps49 rfl rfl (fun w0 hpre => ?_)
  have hl := hpre
  have hlhl := hl.2.1
  refine c_seq ?_
  refine c_region ?_
  refine o_pure (p_assign (v := .int .i64 0) rfl) rfl rfl rfl ?_
  refine o_pure (p_assign (v := .bool false) rfl) rfl rfl rfl ?_
  refine o_nil ?_
  refine q_then ?_
  refine c_seq ?_
  refine c_region ?_
  refine o_pure (p_move (v := .slice al l.length cl) rfl) rfl rfl rfl ?_
  refine o_pure (p_move (v := .int .i64 key) rfl) rfl rfl rfl ?_
  refine o_call0 (v := .tuple #[.int .i64 (lowF (fun x => (fun (x : DEntry) (y : Int) => (cmpI x.key y)) x key) l : Int), .bool (hitF (fun x => (fun (x : DEntry) (y : Int) => (cmpI x.key y)) x key) l)]) rfl (bsearch_ok l al cl key 81 [] (fun x y => (cmpI x.key y)) (fun _ => True) (fun _ _ _ h => h) (fun x y => efind1_ok x y) hf81 (by first | assumption | exact Exp.split_key hy1 _)) hf80 (fun w hw => ⟨(rd_base (i := 0) rfl hl) w hw, trivial⟩) rfl ?_
  refine o_pure (p_extract (vs := [.int .i64 (lowF (fun x => (fun (x : DEntry) (y : Int) => (cmpI x.key y)) x key) l : Int), .bool (hitF (fun x => (fun (x : DEntry) (y : Int) => (cmpI x.key y)) x key) l)]) (v := .int .i64 (lowF (fun x => (fun (x : DEntry) (y : Int) => (cmpI x.key y)) x key) l : Int)) rfl rfl) rfl rfl rfl ?_
  refine o_pure (p_extract (vs := [.int .i64 (lowF (fun x => (fun (x : DEntry) (y : Int) => (cmpI x.key y)) x key) l : Int), .bool (hitF (fun x => (fun (x : DEntry) (y : Int) => (cmpI x.key y)) x key) l)]) (v := .bool (hitF (fun x => (fun (x : DEntry) (y : Int) => (cmpI x.key y)) x key) l)) rfl rfl) rfl rfl rfl ?_
  refine o_pure (p_assign (v := .int .i64 (lowF (fun x => (fun (x : DEntry) (y : Int) => (cmpI x.key y)) x key) l : Int)) rfl) rfl rfl rfl ?_
  refine o_pure (p_assign (v := .bool (hitF (fun x => (fun (x : DEntry) (y : Int) => (cmpI x.key y)) x key) l)) rfl) rfl rfl rfl ?_
  refine o_nil ?_
  refine q_then ?_
  refine c_ret ?_
  have hr0 : ((lowF (fun x => (fun (x : DEntry) (y : Int) => (cmpI x.key y)) x key) l : Int) : Int) = (Exp.findAt l key : Int) := by
    rfl
  have hr1 : ((hitF (fun x => (fun (x : DEntry) (y : Int) => (cmpI x.key y)) x key) l) : Bool) = (Exp.findIs l key) := by
    rfl
  refine q_end0 (v := .tuple #[.int .i64 (lowF (fun x => (fun (x : DEntry) (y : Int) => (cmpI x.key y)) x key) l : Int), .bool (hitF (fun x => (fun (x : DEntry) (y : Int) => (cmpI x.key y)) x key) l)]) (rt2 rfl (r_tmp rfl) (r_tmp rfl)) (i := 0) rfl ?_
  exact (by have hcc := congr (congrArg (fun (y0 : Int) (y1 : Bool) => (.tuple #[.int .i64 y0, .bool y1] : Value)) hr0) hr1; exact hcc)
end Go.Proofs.Ytkndekkacimekaa
