/- The walks, printed by a program from the translation and a specification. -/
import Derived.Test.YtgkihbbeimhmbaaGreatDoorTxF
import Derived.Test.YtgkihbbeimhmbaaGreatDoorOpLaw4M17
import Derived.Test.YtgkihbbeimhmbaaGreatDoorTxW1
namespace Go.Proofs.YtgkihbbeimhmbaaGreatDoor
open Go.Sx Go.RowKit
set_option maxHeartbeats 8000000 in
set_option maxRecDepth 100000 in
theorem clone_Use_ok (l : List DUse) (al : Option Addr) (cl : Nat) (hy1 : l.length ≤ 1000000) : FnM Tryz.prog 98 [.slice al l.length cl] (fun w => Rd tUse w al cl l) (Option Addr × Nat) (fun p => .slice p.1 l.length p.2) (fun p S w => SlO tUse S w p.1 p.2 l) := by
 refine fnM (nt := 8) (F0 := [(0, .slice al l.length cl)]) Tryz.func98 rfl Tryz.ntmps98 rfl rfl (fun w0 hpre => ?_)
 have hl := hpre
 have hlhl := hl.2.1
 refine c_seq (c_region ?_)
 refine o_as rfl rfl ?_
 refine o_nil (q_then (c_seq (c_seq (c_region ?_))))
 refine o_mv rfl rfl ?_
 refine o_p (p_eqNil rfl rfl Tryz.underlying65) ?_
 refine o_nil (q_then ?_)
 refine c_cond rfl (fun hc1 => ?_) (fun hc1 => ?_)
 ·skip
  refine c_seq (c_region ?_)
  refine o_as rfl rfl ?_
  refine o_nil (q_then (c_ret ?_))
  refine q_then_ret ?_
  have hr0 : ([] : List DUse) = l := by
   first | exact (rd_isNone hl (by assumption)).symm | simp
  refine q_endM (p := (none, 0)) (fun _ => False) (rt1 rfl (r_tmp rfl)) (i := 0) rfl ?_ ?_ ?_
  ·exact (by have hcc := congrArg (fun (y0 : List DUse) => (.slice none y0.length 0 : Value)) hr0; exact hcc)
  ·intro w hw b hb; exact hb.elim
  ·intro w hw; exact Eq.mp (congrArg (fun y => SlO tUse _ w none 0 y) hr0) (SlO.nil tUse w)
 ·skip
  refine c_skip (q_then (c_seq (c_region ?_)))
  refine o_buildSlice (m := 0) (T := tUse) (L := []) (vs := []) rfl rfl rfl rfl Tryz.underlying65 sz141 (by decide) ze141 rfl (by decide) rfl (fun S2 a3 => ?_)
  refine o_mv rfl rfl ?_
  refine o_append (i := 0) (L := []) (M := l) (T := tUse) rfl rfl rfl (rd_base (i := 1) rfl hl) Tryz.underlying65 Tryz.underlying65 (by intro k h; cases h) el141 (by intro z; simp [tUse, one1]) (by decide) (by simp only [List.length_nil]; omega) rfl (fun a5 c6 S7 => ?_)
  refine o_as rfl rfl ?_
  refine o_nil (q_then (c_ret ?_))
  have hr0 : (([] ++ l) : List DUse) = l := by
   first | exact (rd_isNone hl (by assumption)).symm | simp
  refine q_endM (p := (a5, c6)) S7 (rt1 rfl (r_tmp rfl)) (i := 1) rfl ?_ ?_ ?_
  ·exact (by have hcc := congrArg (fun (y0 : List DUse) => (.slice a5 y0.length c6 : Value)) hr0; exact hcc)
  ·exact fun w hw => hw.above (i := 1) (j := 0) (by decide) rfl rfl
  ·intro w hw; exact Eq.mp (congrArg (fun y => SlO tUse _ w a5 c6 y) hr0) ((hw.at (i := 0) rfl).here)

set_option maxHeartbeats 8000000 in
set_option maxRecDepth 100000 in
theorem indexFunc_Use_ok (l : List DUse) (al : Option Addr) (cl : Nat) (gf : FuncId) (kf : List Value) (f : DUse → Bool) (Pf : World → Prop) (stf : ∀ w w', Below w.heap.size w w' → Pf w → Pf w') (okf : ∀ (x : DUse), Fn0 Tryz.prog gf (.agg #[Vi x.key, Vi x.count] :: kf) Pf (.bool (f x))) (hpf : HasFn Tryz.prog gf) : Fn0 Tryz.prog 99 [.slice al l.length cl, .func (.func gf) #[] kf.toArray] (fun w => Rd tUse w al cl l ∧ Pf w) (Vi (idxF f l)) := by
 refine fn0 (nt := 19) (F0 := [(0, .slice al l.length cl), (1, .func (.func gf) #[] kf.toArray)]) Tryz.func99 rfl Tryz.ntmps99 rfl rfl (fun w0 hpre => ?_)
 obtain ⟨hl, hf⟩ := hpre
 have hlhl := hl.2.1
 refine c_seq (c_region ?_)
 refine o_as rfl rfl ?_
 refine o_nil (q_then (c_seq (c_seq (c_region ?_))))
 refine o_mv rfl rfl ?_
 refine o_p (p_len_slice rfl rfl Tryz.underlying65) ?_
 refine o_mv rfl rfl ?_
 refine o_nil (q_then (c_block ?_))
 refine c_loop (St := Nat)
  (fun k => [(0, .slice al l.length cl), (1, .func (.func gf) #[] kf.toArray), (7, Vi (l.length : Int)), (8, Vi (k : Int))])
  (fun k => [base w0])
  (fun k => k ≤ l.length ∧ ∀ j (h : j < l.length), j < k → f l[j] = false)
  (fun k => l.length - k)
  0 ?_ (sr (sr (sr (sr (Sub.nil _))))) (fun _ hw => hw) ?_
 ·exact ⟨Nat.zero_le _, fun j _ h => absurd h (by omega)⟩
 rintro k hI K hK1
 obtain ⟨hI1, hI2⟩ := hI
 show SC _ _ Tryz.prog 19 w0 _ _ [(0, .slice al l.length cl), (1, .func (.func gf) #[] kf.toArray), (7, Vi (l.length : Int)), (8, Vi (k : Int))] [base w0]
 refine c_seq (c_region ?_)
 refine o_p (p_lt rfl rfl) ?_
 refine o_nil (q_then (c_seq ?_))
 refine c_cond rfl (fun hc2 => ?_) (fun hc2 => ?_)
 ·simp only [decide_eq_true_eq] at hc2
  refine c_skip (q_then (c_seq (c_block (c_seq (c_region ?_)))))
  refine o_mv rfl rfl ?_
  refine o_as rfl rfl ?_
  refine o_nil (q_then (c_seq (c_region ?_)))
  refine o_mv rfl rfl ?_
  refine o_mv rfl rfl ?_
  refine o_mv rfl rfl ?_
  refine o_p (p_indexAddr (L := l) (T := tUse) (i := (k : Int)) rfl rfl (rd_base (i := 0) rfl hl) Tryz.underlying65 sz141 (by omega) (by omega)) ?_
  refine o_p (p_loadEn (i := k) (T := tUse) (L := l) (vs := [Vi ((l[k]).key), Vi ((l[k]).count)]) rfl (rd_base (i := 0) rfl hl) (by first | assumption | omega) sh141 rfl) ?_
  refine o_call0V (vs := [.agg #[Vi ((l[k]).key), Vi ((l[k]).count)]]) (caps := kf) (v := .bool (f (l[k]))) rfl rfl (okf (l[k])) hpf (pre_base (i := 0) rfl stf hf) rfl ?_
  refine o_nil (q_then ?_)
  refine c_cond rfl (fun hc3 => ?_) (fun hc3 => ?_)
  ·skip
   refine c_seq (c_region ?_)
   refine o_mv rfl rfl ?_
   refine o_as rfl rfl ?_
   refine o_nil (q_then (c_ret ?_))
   refine q_block_ret (q_then_ret (q_then_ret (q_block_ret (q_then_ret ?_))))
   have hr0 : ((k : Int) : Int) = (idxF f l) := by
    first | exact idxF_found (by omega) (by assumption) hI2 | exact idxF_none (fun j h => hI2 j h (by omega))
   refine q_end0 (v := Vi (k : Int)) (rt1 rfl (r_tmp rfl)) (i := 0) rfl ?_
   exact (by have hcc := congrArg (fun (y0 : Int) => (.int .i64 y0 : Value)) hr0; exact hcc)
  ·skip
   refine c_skip ?_
   refine q_block_normal (q_then ?_)
   refine c_region ?_
   refine o_p (p_addb rfl rfl (by omega)) ?_
   refine o_mv rfl rfl ?_
   refine o_nil ?_
   refine q_round hK1 (k + 1) ?_ ?_ ?_ ?_
   ·clear hK1
    refine ⟨by omega, fun j h h2 => ?_⟩
    by_cases e : j = k
    ·subst e; assumption
    ·exact hI2 j h (by omega)
   ·(try dsimp only); omega
   ·exact sr (sr (sr (sr (Sub.nil _))))
   ·exact pk [0]
 ·simp only [decide_eq_false_iff_not, Int.not_lt] at hc2
  refine c_exit ?_
  refine q_then_exit (q_then_exit (q_block_exit (q_then ?_)))
  refine c_seq (c_region ?_)
  refine o_as rfl rfl ?_
  refine o_nil (q_then (c_ret ?_))
  have hr0 : ((-1) : Int) = (idxF f l) := by
   first | exact idxF_found (by omega) (by assumption) hI2 | exact idxF_none (fun j h => hI2 j h (by omega))
  refine q_end0 (v := Vi (-1)) (rt1 rfl (r_tmp rfl)) (i := 0) rfl ?_
  exact (by have hcc := congrArg (fun (y0 : Int) => (.int .i64 y0 : Value)) hr0; exact hcc)

set_option maxHeartbeats 8000000 in
set_option maxRecDepth 100000 in
theorem containsFunc_Use_ok (l : List DUse) (al : Option Addr) (cl : Nat) (gf : FuncId) (kf : List Value) (f : DUse → Bool) (Pf : World → Prop) (stf : ∀ w w', Below w.heap.size w w' → Pf w → Pf w') (okf : ∀ (x : DUse), Fn0 Tryz.prog gf (.agg #[Vi x.key, Vi x.count] :: kf) Pf (.bool (f x))) (hpf : HasFn Tryz.prog gf) : Fn0 Tryz.prog 96 [.slice al l.length cl, .func (.func gf) #[] kf.toArray] (fun w => Rd tUse w al cl l ∧ Pf w) (.bool (l.any f)) := by
 refine fn0 (nt := 9) (F0 := [(0, .slice al l.length cl), (1, .func (.func gf) #[] kf.toArray)]) Tryz.func96 rfl Tryz.ntmps96 rfl rfl (fun w0 hpre => ?_)
 obtain ⟨hl, hf⟩ := hpre
 have hlhl := hl.2.1
 refine c_seq (c_region ?_)
 refine o_as rfl rfl ?_
 refine o_nil (q_then (c_seq (c_region ?_)))
 refine o_mv rfl rfl ?_
 refine o_mv rfl rfl ?_
 refine o_call0 (v := Vi (idxF f l)) rfl (indexFunc_Use_ok l al cl gf kf f Pf stf okf hpf) hf99 (fun w hw => ⟨(rd_base (i := 0) rfl hl) w hw, pre_base (i := 0) rfl stf hf w hw⟩) rfl ?_
 refine o_p (p_ge rfl rfl) ?_
 refine o_as rfl rfl ?_
 refine o_nil (q_then (c_ret ?_))
 have hr0 : (decide (0 ≤ (idxF f l)) : Bool) = (l.any f) := by
  exact (any_idxF f l).symm
 refine q_end0 (v := .bool (decide (0 ≤ (idxF f l)))) (rt1 rfl (r_tmp rfl)) (i := 0) rfl ?_
 exact (by have hcc := congrArg (fun (y0 : Bool) => (.bool y0 : Value)) hr0; exact hcc)

set_option maxHeartbeats 8000000 in
set_option maxRecDepth 100000 in
theorem delete_Use_ok (l : List DUse) (al : Option Addr) (cl : Nat) (Sl : Nat → Prop) (i : Int) (j : Int) (hy1 : 0 ≤ i ∧ i ≤ j ∧ j ≤ (l.length : Int)) : FnX Tryz.prog 125 [.slice al l.length cl, Vi i, Vi j] [own tUse Sl al cl l] (fun _ => True) (Option Addr × Nat × (Nat → Prop)) (fun p => .slice p.1 (l.take i.toNat ++ l.drop j.toNat).length p.2.1) (fun p => [own tUse p.2.2 p.1 p.2.1 (l.take i.toNat ++ l.drop j.toNat)]) := by
 refine fnX (nt := 33) (F0 := [(0, .slice al l.length cl), (1, Vi i), (2, Vi j)]) Tryz.func125 rfl Tryz.ntmps125 rfl rfl (fun w0 hpre => ?_)
 refine c_know (fun w hw => own_len (i := 1) (T := tUse) hw rfl) (fun hlown_l => ?_)
 obtain ⟨hcown_l, hlown_l⟩ := hlown_l
 refine c_seq (c_region ?_)
 refine o_as rfl rfl ?_
 refine o_nil (q_then (c_seq (c_region ?_)))
 refine o_mv rfl rfl ?_
 refine o_mv rfl rfl ?_
 refine o_mv rfl rfl ?_
 refine o_mv rfl rfl ?_
 refine o_p (p_len_slice rfl rfl Tryz.underlying65) ?_
 refine o_p (p_sliceLHM (L := l) (T := tUse) (l := i) (h := j) (m := (l.length : Int)) rfl rfl rfl rfl Tryz.underlying65 sz141 (by omega) (by omega) (by omega) (by omega) (rd_own (i := 1) rfl)) ?_
 refine o_nil (q_then (c_seq (c_seq (c_region ?_))))
 refine o_mv rfl rfl ?_
 refine o_mv rfl rfl ?_
 refine o_p (p_eq rfl rfl) ?_
 refine o_nil (q_then ?_)
 refine c_cond rfl (fun hc1 => ?_) (fun hc1 => ?_)
 ·simp only [beq_iff_eq] at hc1
  refine c_seq (c_region ?_)
  refine o_mv rfl rfl ?_
  refine o_as rfl rfl ?_
  refine o_nil (q_then (c_ret ?_))
  refine q_then_ret ?_
  have hr0 : (l : List DUse) = (l.take i.toNat ++ l.drop j.toNat) := by
   first | rfl | (have hij : i = j := (by assumption); subst hij; exact (List.take_append_drop _ _).symm)
  refine q_endX (p := (al, cl, Sl)) (rt1 rfl (r_tmp rfl)) ?_ (fun w hw => ?_)
  ·exact (by have hcc := congrArg (fun (y0 : List DUse) => (.slice al y0.length cl : Value)) hr0; exact hcc)
  ·have h2 := hw.pick (H' := [outer w0 [own tUse Sl al cl l], own tUse Sl al cl l]) [0, 1] (by decide) rfl
   exact Eq.mp (congrArg (fun z => HeapIs w0 ((outer w0 [own tUse Sl al cl l]) :: z) w) ((by have hcc := congrArg (fun (y0 : List DUse) => ([own tUse Sl al cl y0] : List Ent)) hr0; exact hcc))) h2
 ·simp only [beq_eq_false_iff_ne, ne_eq] at hc1
  refine c_skip (q_then (c_seq (c_region ?_)))
  refine o_mv rfl rfl ?_
  refine o_p (p_len_slice rfl rfl Tryz.underlying65) ?_
  refine o_as rfl rfl ?_
  refine o_nil (q_then (c_seq ?_))
  refine c_cut (G := Unit) (fun _ => [(0, .slice al ((l.take i.toNat) ++ (l.drop j.toNat)).length cl), (7, Vi (l.length : Int))]) (fun _ => [outer w0 [own tUse Sl al cl l], own tUse Sl al cl ((l.take i.toNat) ++ (l.drop j.toNat))]) (fun K hK3 => ?_) ?_
  ·refine c_held hmix [outer w0 [own tUse Sl al cl l]] rfl rfl ?_
   refine h_tk (i := 0) (ls := #[T1,F0,F0,F0,F0,F0,F0,F0]) rfl (p_move rfl) (dp (lj (lz (ln)))) ?_
   refine h_tk (i := 1) (ls := #[T1,T1,F0,F0,F0,F0,F0,F0]) rfl (p_move rfl) (dp (lj (lz (ln)))) ?_
   refine h_tk (i := 3) (ls := #[T1,T1,F0,T1,F0,F0,F0,F0]) rfl (p_move rfl) (dp (lj (lz (ln)))) ?_
   refine h_tk (i := 4) (ls := #[T1,T1,F0,T1,T1,F0,F0,F0]) rfl (p_move rfl) (dp (lj (lz (ln)))) ?_
   refine h_two (i := 2) (j := 5) (ls := #[T1,T1,T1,T1,T1,F0,F0,F0]) (ls' := #[T1,T1,F0,T1,T1,T1,F0,F0]) (by kernel_rfl) rfl rfl rfl rfl ?_ ?_
   ·refine o_p (p_sliceH (L := l) (T := tUse) (h := i) rfl rfl Tryz.underlying65 sz141 (by omega) (by omega) (rd_own (i := 1) rfl)) ?_
    refine o_nil ?_
    refine h_next (dp (lj (lz (ln)))) ?_
    refine h_one (i := 5) (ls := #[T1,T1,T1,T1,T1,T1,F0,F0]) (by kernel_rfl) rfl rfl ?_
    refine o_p (p_sliceL (L := l) (T := tUse) (l := j) rfl rfl Tryz.underlying65 sz141 (by omega) (by omega) (rd_own (i := 1) rfl)) ?_
    refine o_nil ?_
    refine h_next (dp (lj (lz (ln)))) ?_
    refine h_one (i := 6) (ls := #[T1,T1,T1,T1,T1,T1,T1,F0]) (by kernel_rfl) rfl rfl ?_
    refine o_appendIn (i := 1) (m := i.toNat) (L := l) (M := (l.drop j.toNat)) (T := tUse) rfl rfl rfl (by omega) (rd_dropC (l := j.toNat) (rd_own (i := 1) rfl) (by omega)) Tryz.underlying65 Tryz.underlying65 (by intro k h; cases h) el141 (by intro z; simp [tUse, one1]) (by first | (simp only [List.length_drop]; omega) | (simp; omega)) rfl ?_
    refine o_nil ?_
    refine h_next (dp (lj (lz (ln)))) ?_
    refine h_tk (i := 7) (ls := #[T1,T1,T1,T1,T1,T1,T1,T1]) rfl (p_assign rfl) (dp (lj (lz (ln)))) ?_
    refine h_done (by kernel_rfl) ?_
    refine q_kont hK3 () (sr (sr (Sub.nil _))) (pk [0, 1])
   ·refine o_p (p_sliceL (L := l) (T := tUse) (l := j) rfl rfl Tryz.underlying65 sz141 (by omega) (by omega) (rd_own (i := 1) rfl)) ?_
    refine o_nil ?_
    refine h_next (dp (lj (lz (ln)))) ?_
    refine h_one (i := 2) (ls := #[T1,T1,T1,T1,T1,T1,F0,F0]) (by kernel_rfl) rfl rfl ?_
    refine o_p (p_sliceH (L := l) (T := tUse) (h := i) rfl rfl Tryz.underlying65 sz141 (by omega) (by omega) (rd_own (i := 1) rfl)) ?_
    refine o_nil ?_
    refine h_next (dp (lj (lz (ln)))) ?_
    refine h_one (i := 6) (ls := #[T1,T1,T1,T1,T1,T1,T1,F0]) (by kernel_rfl) rfl rfl ?_
    refine o_appendIn (i := 1) (m := i.toNat) (L := l) (M := (l.drop j.toNat)) (T := tUse) rfl rfl rfl (by omega) (rd_dropC (l := j.toNat) (rd_own (i := 1) rfl) (by omega)) Tryz.underlying65 Tryz.underlying65 (by intro k h; cases h) el141 (by intro z; simp [tUse, one1]) (by first | (simp only [List.length_drop]; omega) | (simp; omega)) rfl ?_
    refine o_nil ?_
    refine h_next (dp (lj (lz (ln)))) ?_
    refine h_tk (i := 7) (ls := #[T1,T1,T1,T1,T1,T1,T1,T1]) rfl (p_assign rfl) (dp (lj (lz (ln)))) ?_
    refine h_done (by kernel_rfl) ?_
    refine q_kont hK3 () (sr (sr (Sub.nil _))) (pk [0, 1])
  rintro _
  show SQ _ 33 w0 _ _ [(0, .slice al ((l.take i.toNat) ++ (l.drop j.toNat)).length cl), (7, Vi (l.length : Int))] [outer w0 [own tUse Sl al cl l], own tUse Sl al cl ((l.take i.toNat) ++ (l.drop j.toNat))]
  refine q_cast (F' := [(0, .slice al ((l.take i.toNat) ++ (l.drop j.toNat)).length cl), (7, Vi (l.length : Int))]) (H := [outer w0 [own tUse Sl al cl l], own tUse Sl al cl ((l.take i.toNat) ++ (l.drop j.toNat))]) (H' := [outer w0 [own tUse Sl al cl l], own tUse Sl al cl ((l.take i.toNat) ++ (l.drop j.toNat))]) (sr (sr (Sub.nil _))) (by rfl) ?_
  refine q_then (c_seq (c_region ?_))
  refine o_mv rfl rfl ?_
  refine o_mv rfl rfl ?_
  refine o_p (p_len_slice rfl rfl Tryz.underlying65) ?_
  refine o_mv rfl rfl ?_
  refine o_p (p_sliceTail (i := 1) (L := ((l.take i.toNat) ++ (l.drop j.toNat))) (T := tUse) (h := (l.length : Int)) (m := (l.length - (l.take i.toNat ++ l.drop j.toNat).length)) rfl rfl rfl rfl Tryz.underlying65 sz141 (by simp only [List.length_append, List.length_take, List.length_drop]; omega)) ?_
  refine o_clearTail (i := 1) (T := tUse) (m := (l.length - (l.take i.toNat ++ l.drop j.toNat).length)) rfl rfl rfl Tryz.underlying65 ze141 rfl rfl (by first | omega | (simp only [List.length_append, List.length_take, List.length_drop]; omega)) ?_
  refine o_nil (q_then (c_seq (c_region ?_)))
  refine o_mv rfl rfl ?_
  refine o_as rfl rfl ?_
  refine o_nil (q_then (c_ret ?_))
  have hr0 : (((l.take i.toNat) ++ (l.drop j.toNat)) : List DUse) = (l.take i.toNat ++ l.drop j.toNat) := by
   first | rfl | (have hij : i = j := (by assumption); subst hij; exact (List.take_append_drop _ _).symm)
  refine q_endX (p := (al, cl, Sl)) (rt1 rfl (r_tmp rfl)) ?_ (fun w hw => ?_)
  ·exact (by have hcc := congrArg (fun (y0 : List DUse) => (.slice al y0.length cl : Value)) hr0; exact hcc)
  ·have h2 := hw.pick (H' := [outer w0 [own tUse Sl al cl l], own tUse Sl al cl ((l.take i.toNat) ++ (l.drop j.toNat))]) [0, 1] (by decide) rfl
   exact Eq.mp (congrArg (fun z => HeapIs w0 ((outer w0 [own tUse Sl al cl l]) :: z) w) ((by have hcc := congrArg (fun (y0 : List DUse) => ([own tUse Sl al cl y0] : List Ent)) hr0; exact hcc))) h2

set_option maxHeartbeats 8000000 in
set_option maxRecDepth 100000 in
theorem insert_Use_ok (l : List DUse) (al : Option Addr) (cl : Nat) (Sl : Nat → Prop) (i : Int) (v : List DUse) (av : Option Addr) (cv : Nat) (Sv : Nat → Prop) (hy1 : 0 ≤ i ∧ i ≤ (l.length : Int) ∧ l.length ≤ 1000000 ∧ v.length = 1) : FnX Tryz.prog 103 [.slice al l.length cl, Vi i, .slice av v.length cv] [own tUse Sl al cl l, own tUse Sv av cv v] (fun _ => True) (Option Addr × Nat × (Nat → Prop)) (fun p => .slice p.1 (l.take i.toNat ++ v ++ l.drop i.toNat).length p.2.1) (fun p => [own tUse p.2.2 p.1 p.2.1 (l.take i.toNat ++ v ++ l.drop i.toNat)]) := by
 refine fnX (nt := 95) (F0 := [(0, .slice al l.length cl), (1, Vi i), (2, .slice av v.length cv)]) Tryz.func103 rfl Tryz.ntmps103 rfl rfl (fun w0 hpre => ?_)
 refine c_know (fun w hw => own_len (i := 1) (T := tUse) hw rfl) (fun hlown_l => ?_)
 obtain ⟨hcown_l, hlown_l⟩ := hlown_l
 refine c_know (fun w hw => own_len (i := 2) (T := tUse) hw rfl) (fun hlown_v => ?_)
 obtain ⟨hcown_v, hlown_v⟩ := hlown_v
 refine c_seq (c_region ?_)
 refine o_as rfl rfl ?_
 refine o_nil (q_then (c_seq (c_region ?_)))
 refine o_mv rfl rfl ?_
 refine o_mv rfl rfl ?_
 refine o_p (p_sliceL (L := l) (T := tUse) (l := i) rfl rfl Tryz.underlying65 sz141 (by first | omega | (simp only [List.length_append, List.length_take, List.length_replicate, List.length_drop, List.length_set]; omega)) (by first | omega | (simp only [List.length_append, List.length_take, List.length_replicate, List.length_drop, List.length_set]; omega)) (rd_own (i := 1) rfl)) ?_
 refine o_nil (q_then (c_seq (c_region ?_)))
 refine o_mv rfl rfl ?_
 refine o_p (p_len_slice rfl rfl Tryz.underlying65) ?_
 refine o_as rfl rfl ?_
 refine o_nil (q_then (c_seq (c_seq (c_region ?_))))
 refine o_mv rfl rfl ?_
 refine o_p (p_eq rfl rfl) ?_
 refine o_nil (q_then ?_)
 refine c_cond rfl (fun hc1 => ?_) (fun hc1 => ?_)
 ·simp only [beq_iff_eq] at hc1
  exfalso; omega
 ·simp only [beq_eq_false_iff_ne, ne_eq] at hc1
  refine c_skip (q_then (c_seq (c_region ?_)))
  refine o_mv rfl rfl ?_
  refine o_p (p_len_slice rfl rfl Tryz.underlying65) ?_
  refine o_as rfl rfl ?_
  refine o_nil (q_then (c_seq (c_seq (c_region ?_))))
  refine o_mv rfl rfl ?_
  refine o_mv rfl rfl ?_
  refine o_p (p_eq rfl rfl) ?_
  refine o_nil (q_then ?_)
  refine c_cond rfl (fun hc2 => ?_) (fun hc2 => ?_)
  ·simp only [beq_iff_eq] at hc2
   refine c_seq (c_region ?_)
   refine o_mv rfl rfl ?_
   refine o_mv rfl rfl ?_
   refine o_append (i := 1) (L := l) (M := v) (T := tUse) rfl rfl rfl (rd_own (i := 2) rfl) Tryz.underlying65 Tryz.underlying65 (by intro k h; cases h) el141 (by intro z; simp [tUse, one1]) (by decide) (by first | omega | (simp only [List.length_cons, List.length_nil]; omega) | (simp only [List.length_append, List.length_cons, List.length_nil, List.length_take, List.length_drop]; omega)) rfl (fun a3 c4 S5 => ?_)
   refine o_as rfl rfl ?_
   refine o_nil (q_then (c_ret ?_))
   refine q_then_ret ?_
   have hr0 : ((l ++ v) : List DUse) = (l.take i.toNat ++ v ++ l.drop i.toNat) := by
    first | rfl | (obtain rfl : i = (l.length : Int) := (by assumption); simp)
   refine q_endX (p := (a3, c4, S5)) (rt1 rfl (r_tmp rfl)) ?_ (fun w hw => ?_)
   ·exact (by have hcc := congrArg (fun (y0 : List DUse) => (.slice a3 y0.length c4 : Value)) hr0; exact hcc)
   ·have h2 := hw.pick (H' := [outer w0 [own tUse Sl al cl l, own tUse Sv av cv v], own tUse S5 a3 c4 (l ++ v)]) [0, 1] (by decide) rfl
    exact Eq.mp (congrArg (fun z => HeapIs w0 ((outer w0 [own tUse Sl al cl l, own tUse Sv av cv v]) :: z) w) ((by have hcc := congrArg (fun (y0 : List DUse) => ([own tUse S5 a3 c4 y0] : List Ent)) hr0; exact hcc))) h2
  ·simp only [beq_eq_false_iff_ne, ne_eq] at hc2
   refine c_skip (q_then (c_seq (c_seq (c_region ?_))))
   refine o_mv rfl rfl ?_
   refine o_mv rfl rfl ?_
   refine o_p (p_addb rfl rfl (by omega)) ?_
   refine o_mv rfl rfl ?_
   refine o_p (p_cap_slice rfl rfl Tryz.underlying65) ?_
   refine o_p (p_gt rfl rfl) ?_
   refine o_nil (q_then ?_)
   refine c_cond rfl (fun hc6 => ?_) (fun hc6 => ?_)
   ·simp only [decide_eq_true_eq] at hc6
    refine c_seq (c_region ?_)
    refine o_mv rfl rfl ?_
    refine o_mv rfl rfl ?_
    refine o_p (p_sliceH (L := l) (T := tUse) (h := i) rfl rfl Tryz.underlying65 sz141 (by first | omega | (simp only [List.length_append, List.length_take, List.length_replicate, List.length_drop, List.length_set]; omega)) (by first | omega | (simp only [List.length_append, List.length_take, List.length_replicate, List.length_drop, List.length_set]; omega)) (rd_own (i := 1) rfl)) ?_
    refine o_mv rfl rfl ?_
    refine o_mv rfl rfl ?_
    refine o_p (p_addb rfl rfl (by omega)) ?_
    refine o_mv rfl rfl ?_
    refine o_p (p_subb rfl rfl (by omega)) ?_
    refine o_appendZ (i := 1) (m := i.toNat) (k := (l.length + v.length - i.toNat)) (L := l) (T := tUse) (z := (⟨0, 0⟩ : DUse)) rfl rfl rfl (by omega) Tryz.underlying65 Tryz.underlying3 el141 ze141 rfl (by decide) (by omega) rfl (fun a7 c8 S9 => ?_)
    refine o_know (fun w hw => own_len (i := 0) (T := tUse) hw rfl) (fun hlz11 => ?_)
    have hlz11b : ((l.take i.toNat) ++ (List.replicate (l.length + v.length - i.toNat) (⟨0, 0⟩ : DUse))).length = l.length + v.length := by simp only [List.length_append, List.length_take, List.length_replicate, List.length_drop, List.length_set]; omega
    refine o_as rfl rfl ?_
    refine o_nil (q_then (c_seq (c_region ?_)))
    refine o_mv rfl rfl ?_
    refine o_mv rfl rfl ?_
    refine o_p (p_sliceL (L := ((l.take i.toNat) ++ (List.replicate (l.length + v.length - i.toNat) (⟨0, 0⟩ : DUse)))) (T := tUse) (l := i) rfl rfl Tryz.underlying65 sz141 (by first | omega | (simp only [List.length_append, List.length_take, List.length_replicate, List.length_drop, List.length_set]; omega)) (by first | omega | (simp only [List.length_append, List.length_take, List.length_replicate, List.length_drop, List.length_set]; omega)) (rd_own (i := 0) rfl)) ?_
    refine o_mv rfl rfl ?_
    refine o_copy (i := 0) (lo := i.toNat) (M := v) (T := tUse) (L := ((l.take i.toNat) ++ (List.replicate (l.length + v.length - i.toNat) (⟨0, 0⟩ : DUse)))) (m := 1) (F' := [(0, .slice al l.length cl), (1, Vi i), (7, Vi (v.length : Int)), (9, .slice a7 (l.take i.toNat ++ v ++ List.replicate (l.length - i.toNat) (⟨0, 0⟩ : DUse)).length c8)]) rfl rfl rfl (rd_own (i := 3) rfl) (by (try simp only [List.length_append, List.length_take, List.length_replicate, List.length_drop, List.length_set]); omega) Tryz.underlying65 sz141 (by intro z; simp [tUse, one1]) (by (try simp only [List.length_append, List.length_take, List.length_replicate, List.length_drop, List.length_set]); omega) rfl (by omega) (sr (sr (sr (Sub.cons (by show some _ = some _; congr 2; first | (simp; omega) | simp) (Sub.nil _))))) ?_
    refine o_asH (H := [own tUse S9 a7 c8 (((l.take i.toNat) ++ (List.replicate (l.length + v.length - i.toNat) (⟨0, 0⟩ : DUse))).take i.toNat ++ v ++ ((l.take i.toNat) ++ (List.replicate (l.length + v.length - i.toNat) (⟨0, 0⟩ : DUse))).drop (i.toNat + v.length)), outer w0 [own tUse Sl al cl l, own tUse Sv av cv v], own tUse Sl al cl l, own tUse Sv av cv v]) (H' := [own tUse S9 a7 c8 (l.take i.toNat ++ v ++ List.replicate (l.length - i.toNat) (⟨0, 0⟩ : DUse)), outer w0 [own tUse Sl al cl l, own tUse Sv av cv v], own tUse Sl al cl l, own tUse Sv av cv v]) (by have hins : ((((l.take i.toNat) ++ (List.replicate (l.length + v.length - i.toNat) (⟨0, 0⟩ : DUse))).take i.toNat ++ v ++ ((l.take i.toNat) ++ (List.replicate (l.length + v.length - i.toNat) (⟨0, 0⟩ : DUse))).drop (i.toNat + v.length)) : List DUse) = (l.take i.toNat ++ v ++ List.replicate (l.length - i.toNat) (⟨0, 0⟩ : DUse)) := (by exact ins_a (by omega) (by omega)); rw [hins]) ?_
    refine o_nil (q_then (c_seq ?_))
    refine c_held hmix [ownE tUse S9 a7 c8 ((l.take i.toNat ++ v ++ List.replicate (l.length - i.toNat) (⟨0, 0⟩ : DUse)).length), outer w0 [own tUse Sl al cl l, own tUse Sv av cv v], own tUse Sl al cl l, own tUse Sv av cv v] rfl rfl ?_
    refine h_tk (i := 0) (ls := #[T1,F0,F0,F0,F0,F0,F0,F0,F0]) rfl (p_move rfl) (fun _ hw => HeapIs.drop (HeapIs.toE (i := 0) (m := (l.take i.toNat ++ v ++ List.replicate (l.length - i.toNat) (⟨0, 0⟩ : DUse)).length) (T := tUse) rfl (by first | rfl | (simp; done) | (simp; omega)) hw) (lr)) ?_
    refine h_tk (i := 1) (ls := #[T1,T1,F0,F0,F0,F0,F0,F0,F0]) rfl (p_move rfl) (fun _ hw => HeapIs.drop (HeapIs.toE (i := 0) (m := (l.take i.toNat ++ v ++ List.replicate (l.length - i.toNat) (⟨0, 0⟩ : DUse)).length) (T := tUse) rfl (by first | rfl | (simp; done) | (simp; omega)) hw) (lr)) ?_
    refine h_tk (i := 2) (ls := #[T1,T1,T1,F0,F0,F0,F0,F0,F0]) rfl (p_move rfl) (fun _ hw => HeapIs.drop (HeapIs.toE (i := 0) (m := (l.take i.toNat ++ v ++ List.replicate (l.length - i.toNat) (⟨0, 0⟩ : DUse)).length) (T := tUse) rfl (by first | rfl | (simp; done) | (simp; omega)) hw) (lr)) ?_
    refine h_tk (i := 3) (ls := #[T1,T1,T1,T1,F0,F0,F0,F0,F0]) rfl (p_addb rfl rfl (by omega)) (fun _ hw => HeapIs.drop (HeapIs.toE (i := 0) (m := (l.take i.toNat ++ v ++ List.replicate (l.length - i.toNat) (⟨0, 0⟩ : DUse)).length) (T := tUse) rfl (by first | rfl | (simp; done) | (simp; omega)) hw) (lr)) ?_
    refine h_tk (i := 4) (ls := #[T1,T1,T1,T1,T1,F0,F0,F0,F0]) rfl (p_sliceLE (j := 0) (m := (l.take i.toNat ++ v ++ List.replicate (l.length - i.toNat) (⟨0, 0⟩ : DUse)).length) (T := tUse) (l := (i + (v.length : Int))) rfl rfl rfl Tryz.underlying65 sz141 (by omega) (by first | omega | (simp; omega))) (fun _ hw => HeapIs.drop (HeapIs.toE (i := 0) (m := (l.take i.toNat ++ v ++ List.replicate (l.length - i.toNat) (⟨0, 0⟩ : DUse)).length) (T := tUse) rfl (by first | rfl | (simp; done) | (simp; omega)) hw) (lr)) ?_
    refine h_tk (i := 5) (ls := #[T1,T1,T1,T1,T1,T1,F0,F0,F0]) rfl (p_move rfl) (fun _ hw => HeapIs.drop (HeapIs.toE (i := 0) (m := (l.take i.toNat ++ v ++ List.replicate (l.length - i.toNat) (⟨0, 0⟩ : DUse)).length) (T := tUse) rfl (by first | rfl | (simp; done) | (simp; omega)) hw) (lr)) ?_
    refine h_tk (i := 6) (ls := #[T1,T1,T1,T1,T1,T1,T1,F0,F0]) rfl (p_move rfl) (fun _ hw => HeapIs.drop (HeapIs.toE (i := 0) (m := (l.take i.toNat ++ v ++ List.replicate (l.length - i.toNat) (⟨0, 0⟩ : DUse)).length) (T := tUse) rfl (by first | rfl | (simp; done) | (simp; omega)) hw) (lr)) ?_
    refine h_tk (i := 7) (ls := #[T1,T1,T1,T1,T1,T1,T1,T1,F0]) rfl (p_sliceL (L := l) (T := tUse) (l := i) rfl rfl Tryz.underlying65 sz141 (by first | omega | (simp only [List.length_append, List.length_take, List.length_replicate, List.length_drop, List.length_set]; omega)) (by first | omega | (simp only [List.length_append, List.length_take, List.length_replicate, List.length_drop, List.length_set]; omega)) (rd_own (i := 2) rfl)) (fun _ hw => HeapIs.drop (HeapIs.toE (i := 0) (m := (l.take i.toNat ++ v ++ List.replicate (l.length - i.toNat) (⟨0, 0⟩ : DUse)).length) (T := tUse) rfl (by first | rfl | (simp; done) | (simp; omega)) hw) (lr)) ?_
    refine h_one (i := 8) (ls := #[T1,T1,T1,T1,T1,T1,T1,T1,T1]) (by kernel_rfl) rfl rfl ?_
    refine o_copy (i := 0) (lo := (i + (v.length : Int)).toNat) (M := (l.drop i.toNat)) (T := tUse) (L := (l.take i.toNat ++ v ++ List.replicate (l.length - i.toNat) (⟨0, 0⟩ : DUse))) (m := (l.length - i.toNat)) (F' := [(0, .slice al l.length cl), (1, Vi i), (7, Vi (v.length : Int)), (9, .slice a7 (l.take i.toNat ++ v ++ l.drop i.toNat).length c8)]) rfl rfl rfl (rd_dropC (l := i.toNat) (rd_own (i := 2) rfl) (by first | omega | (simp only [List.length_append, List.length_take, List.length_replicate, List.length_drop, List.length_set]; omega))) (by (try simp only [List.length_append, List.length_take, List.length_replicate, List.length_drop, List.length_set]); omega) Tryz.underlying65 sz141 (by intro z; simp [tUse, one1]) (by (try simp only [List.length_append, List.length_take, List.length_replicate, List.length_drop, List.length_set]); omega) rfl (by simp) (sr (sr (sr (Sub.cons (by show some _ = some _; congr 2; first | (simp; omega) | simp) (Sub.nil _))))) ?_
    refine o_asH (H := [own tUse S9 a7 c8 ((l.take i.toNat ++ v ++ List.replicate (l.length - i.toNat) (⟨0, 0⟩ : DUse)).take ((i + (v.length : Int)).toNat) ++ (l.drop i.toNat) ++ (l.take i.toNat ++ v ++ List.replicate (l.length - i.toNat) (⟨0, 0⟩ : DUse)).drop (((i + (v.length : Int)).toNat) + (l.drop i.toNat).length)), outer w0 [own tUse Sl al cl l, own tUse Sv av cv v], own tUse Sl al cl l, own tUse Sv av cv v]) (H' := [own tUse S9 a7 c8 (l.take i.toNat ++ v ++ l.drop i.toNat), outer w0 [own tUse Sl al cl l, own tUse Sv av cv v], own tUse Sl al cl l, own tUse Sv av cv v]) (by have hins : (((l.take i.toNat ++ v ++ List.replicate (l.length - i.toNat) (⟨0, 0⟩ : DUse)).take ((i + (v.length : Int)).toNat) ++ (l.drop i.toNat) ++ (l.take i.toNat ++ v ++ List.replicate (l.length - i.toNat) (⟨0, 0⟩ : DUse)).drop (((i + (v.length : Int)).toNat) + (l.drop i.toNat).length)) : List DUse) = (l.take i.toNat ++ v ++ l.drop i.toNat) := (by exact ins_b (by omega) (by omega) (by omega)); rw [hins]) ?_
    refine o_nil ?_
    refine h_next (fun _ hw => HeapIs.drop (HeapIs.toE (i := 0) (m := (l.take i.toNat ++ v ++ List.replicate (l.length - i.toNat) (⟨0, 0⟩ : DUse)).length) (T := tUse) rfl (by first | rfl | (simp; done) | (simp; omega)) hw) (lr)) ?_
    refine h_done (by kernel_rfl) ?_
    refine q_cast (F' := [(9, .slice a7 (l.take i.toNat ++ v ++ l.drop i.toNat).length c8)]) (H := [own tUse S9 a7 c8 (l.take i.toNat ++ v ++ l.drop i.toNat), outer w0 [own tUse Sl al cl l, own tUse Sv av cv v], own tUse Sl al cl l, own tUse Sv av cv v]) (H' := [own tUse S9 a7 c8 (l.take i.toNat ++ v ++ l.drop i.toNat), outer w0 [own tUse Sl al cl l, own tUse Sv av cv v], own tUse Sl al cl l, own tUse Sv av cv v]) (sr (Sub.nil _)) (by rfl) ?_
    refine q_then (c_seq (c_region ?_))
    refine o_mv rfl rfl ?_
    refine o_as rfl rfl ?_
    refine o_nil (q_then (c_ret ?_))
    refine q_then_ret ?_
    refine q_endX (p := (a7, c8, S9)) (rt1 rfl (r_tmp rfl)) ?_ (fun w hw => ?_)
    ·exact rfl
    ·have h2 := hw.pick (H' := [outer w0 [own tUse Sl al cl l, own tUse Sv av cv v], own tUse S9 a7 c8 (l.take i.toNat ++ v ++ l.drop i.toNat)]) [1, 0] (by decide) rfl
     exact Eq.mp (congrArg (fun z => HeapIs w0 ((outer w0 [own tUse Sl al cl l, own tUse Sv av cv v]) :: z) w) (rfl)) h2
   ·simp only [decide_eq_false_iff_not, Int.not_lt] at hc6
    refine c_skip (q_then (c_seq (c_region ?_)))
    refine o_mv rfl rfl ?_
    refine o_mv rfl rfl ?_
    refine o_mv rfl rfl ?_
    refine o_p (p_addb rfl rfl (by omega)) ?_
    refine o_p (p_slice0 (hi := (l.length + v.length)) (hv := ((l.length : Int) + (v.length : Int))) rfl rfl Tryz.underlying65 sz141 (by omega) (by omega)) ?_
    refine o_as rfl rfl ?_
    refine o_nil (q_then (c_seq (c_seq (c_region ?_))))
    refine o_mv rfl rfl ?_
    refine o_mv rfl rfl ?_
    refine o_mv rfl rfl ?_
    refine o_mv rfl rfl ?_
    refine o_p (p_addb rfl rfl (by omega)) ?_
    refine o_p (p_slice (l := (i.toNat + 1)) (hi := (l.length + v.length)) (m := cl) (lv := some (Vi (i + (v.length : Int)))) (hv := none) (mv := none) rfl rfl rfl rfl Tryz.underlying65 sz141 (.inr ⟨.i64, by congr 1; congr 1; omega⟩) (.inl ⟨rfl, rfl⟩) (.inl ⟨rfl, rfl⟩) (fun _ => rfl) (by omega) (by omega) (Nat.le_refl _) rfl) ?_
    refine o_p (p_overlaps (tS := 65) (tR := 4) (i := 1) (j := 2) (lo := (i.toNat + 1)) (M := v) Tryz.func126 (by kernel_rfl) (by kernel_rfl) (by kernel_rfl) (by kernel_rfl) rfl rfl rfl rfl (by decide) Tryz.underlying65 sz141 (by omega) (by omega) (by decide)) ?_
    refine o_p (p_not (b := false) rfl) ?_
    refine o_nil (q_then ?_)
    refine c_true rfl ?_
    refine c_seq ?_
    refine c_held hmix [outer w0 [own tUse Sl al cl l, own tUse Sv av cv v], own tUse Sv av cv v] rfl rfl ?_
    refine h_tk (i := 0) (ls := #[T1,F0,F0,F0,F0,F0,F0,F0,F0]) rfl (p_move rfl) (dp (lj (lz (lj (ln))))) ?_
    refine h_tk (i := 1) (ls := #[T1,T1,F0,F0,F0,F0,F0,F0,F0]) rfl (p_move rfl) (dp (lj (lz (lj (ln))))) ?_
    refine h_tk (i := 2) (ls := #[T1,T1,T1,F0,F0,F0,F0,F0,F0]) rfl (p_move rfl) (dp (lj (lz (lj (ln))))) ?_
    refine h_tk (i := 3) (ls := #[T1,T1,T1,T1,F0,F0,F0,F0,F0]) rfl (p_addb rfl rfl (by omega)) (dp (lj (lz (lj (ln))))) ?_
    refine h_tk (i := 4) (ls := #[T1,T1,T1,T1,T1,F0,F0,F0,F0]) rfl (p_slice (l := (i.toNat + 1)) (hi := (l.length + v.length)) (m := cl) (lv := some (Vi (i + (v.length : Int)))) (hv := none) (mv := none) rfl rfl rfl rfl Tryz.underlying65 sz141 (.inr ⟨.i64, by congr 1; congr 1; omega⟩) (.inl ⟨rfl, rfl⟩) (.inl ⟨rfl, rfl⟩) (fun _ => rfl) (by omega) (by omega) (Nat.le_refl _) rfl) (dp (lj (lz (lj (ln))))) ?_
    refine h_tk (i := 5) (ls := #[T1,T1,T1,T1,T1,T1,F0,F0,F0]) rfl (p_move rfl) (dp (lj (lz (lj (ln))))) ?_
    refine h_tk (i := 6) (ls := #[T1,T1,T1,T1,T1,T1,T1,F0,F0]) rfl (p_move rfl) (dp (lj (lz (lj (ln))))) ?_
    refine h_tk (i := 7) (ls := #[T1,T1,T1,T1,T1,T1,T1,T1,F0]) rfl (p_slice (l := i.toNat) (hi := (l.length + v.length)) (m := cl) (lv := some (Vi i)) (hv := none) (mv := none) rfl rfl rfl rfl Tryz.underlying65 sz141 (.inr ⟨.i64, by congr 1; congr 1; omega⟩) (.inl ⟨rfl, rfl⟩) (.inl ⟨rfl, rfl⟩) (fun _ => rfl) (by omega) (by omega) (Nat.le_refl _) rfl) (dp (lj (lz (lj (ln))))) ?_
    refine h_one (i := 8) (ls := #[T1,T1,T1,T1,T1,T1,T1,T1,T1]) (by kernel_rfl) rfl rfl ?_
    refine o_copy (i := 1) (lo := (i.toNat + 1)) (M := (l.drop i.toNat)) (T := tUse) (L := l) (m := (l.length - i.toNat)) (F' := [(0, .slice al (l.take (i.toNat + 1) ++ l.drop i.toNat).length cl), (1, Vi i), (2, .slice av v.length cv), (7, Vi (v.length : Int)), (8, Vi (l.length : Int)), (68, .bool true)]) rfl rfl rfl (rd_dropC (l := i.toNat) (rd_own (i := 1) rfl) (by omega)) (by (try simp only [List.length_append, List.length_take, List.length_replicate, List.length_drop, List.length_set]); omega) Tryz.underlying65 sz141 (by intro z; simp [tUse, one1]) (by (try simp only [List.length_append, List.length_take, List.length_replicate, List.length_drop, List.length_set]); omega) rfl (by simp) (Sub.cons (by show some _ = some _; congr 2; first | (simp; omega) | simp) (sr (sr (sr (sr (sr (Sub.nil _))))))) ?_
    refine o_asH (H := [outer w0 [own tUse Sl al cl l, own tUse Sv av cv v], own tUse Sl al cl (l.take (i.toNat + 1) ++ (l.drop i.toNat) ++ l.drop ((i.toNat + 1) + (l.drop i.toNat).length)), own tUse Sv av cv v]) (H' := [outer w0 [own tUse Sl al cl l, own tUse Sv av cv v], own tUse Sl al cl (l.take (i.toNat + 1) ++ l.drop i.toNat), own tUse Sv av cv v]) (by have hins : ((l.take (i.toNat + 1) ++ (l.drop i.toNat) ++ l.drop ((i.toNat + 1) + (l.drop i.toNat).length)) : List DUse) = (l.take (i.toNat + 1) ++ l.drop i.toNat) := (by exact ins_c (by omega) (by omega)); rw [hins]) ?_
    refine o_nil ?_
    refine h_next (dp (lj (lz (lj (ln))))) ?_
    refine h_done (by kernel_rfl) ?_
    refine q_cast (F' := [(0, .slice al (l.take (i.toNat + 1) ++ l.drop i.toNat).length cl), (1, Vi i), (2, .slice av v.length cv)]) (H := [outer w0 [own tUse Sl al cl l, own tUse Sv av cv v], own tUse Sl al cl (l.take (i.toNat + 1) ++ l.drop i.toNat), own tUse Sv av cv v]) (H' := [outer w0 [own tUse Sl al cl l, own tUse Sv av cv v], own tUse Sl al cl (l.take (i.toNat + 1) ++ l.drop i.toNat), own tUse Sv av cv v]) (sr (sr (sr (Sub.nil _)))) (by rfl) ?_
    refine q_then (c_seq (c_region ?_))
    refine o_mv rfl rfl ?_
    refine o_mv rfl rfl ?_
    refine o_p (p_sliceL (L := (l.take (i.toNat + 1) ++ l.drop i.toNat)) (T := tUse) (l := i) rfl rfl Tryz.underlying65 sz141 (by first | omega | (simp only [List.length_append, List.length_take, List.length_replicate, List.length_drop, List.length_set]; omega)) (by first | omega | (simp only [List.length_append, List.length_take, List.length_replicate, List.length_drop, List.length_set]; omega)) (rd_own (i := 1) rfl)) ?_
    refine o_mv rfl rfl ?_
    refine o_copy (i := 1) (lo := i.toNat) (M := v) (T := tUse) (L := (l.take (i.toNat + 1) ++ l.drop i.toNat)) (m := 1) (F' := [(0, .slice al (l.take i.toNat ++ v ++ l.drop i.toNat).length cl)]) rfl rfl rfl (rd_own (i := 2) rfl) (by (try simp only [List.length_append, List.length_take, List.length_replicate, List.length_drop, List.length_set]); omega) Tryz.underlying65 sz141 (by intro z; simp [tUse, one1]) (by (try simp only [List.length_append, List.length_take, List.length_replicate, List.length_drop, List.length_set]); omega) rfl (by omega) (Sub.cons (by show some _ = some _; congr 2; first | (simp; omega) | simp) (Sub.nil _)) ?_
    refine o_asH (H := [outer w0 [own tUse Sl al cl l, own tUse Sv av cv v], own tUse Sl al cl ((l.take (i.toNat + 1) ++ l.drop i.toNat).take i.toNat ++ v ++ (l.take (i.toNat + 1) ++ l.drop i.toNat).drop (i.toNat + v.length)), own tUse Sv av cv v]) (H' := [outer w0 [own tUse Sl al cl l, own tUse Sv av cv v], own tUse Sl al cl (l.take i.toNat ++ v ++ l.drop i.toNat), own tUse Sv av cv v]) (by have hins : (((l.take (i.toNat + 1) ++ l.drop i.toNat).take i.toNat ++ v ++ (l.take (i.toNat + 1) ++ l.drop i.toNat).drop (i.toNat + v.length)) : List DUse) = (l.take i.toNat ++ v ++ l.drop i.toNat) := (by exact ins_d (by omega) (by omega)); rw [hins]) ?_
    refine o_nil (q_then (c_seq (c_region ?_)))
    refine o_mv rfl rfl ?_
    refine o_as rfl rfl ?_
    refine o_nil (q_then (c_ret ?_))
    refine q_then_ret ?_
    refine q_endX (p := (al, cl, Sl)) (rt1 rfl (r_tmp rfl)) ?_ (fun w hw => ?_)
    ·exact rfl
    ·have h2 := hw.pick (H' := [outer w0 [own tUse Sl al cl l, own tUse Sv av cv v], own tUse Sl al cl (l.take i.toNat ++ v ++ l.drop i.toNat)]) [0, 1] (by decide) rfl
     exact Eq.mp (congrArg (fun z => HeapIs w0 ((outer w0 [own tUse Sl al cl l, own tUse Sv av cv v]) :: z) w) (rfl)) h2

set_option maxHeartbeats 8000000 in
set_option maxRecDepth 100000 in
theorem fcheck1_ok (x : DUse) : Fn0 Tryz.prog 97 [.agg #[Vi x.key, Vi x.count]] (fun _ => True) (.bool (!Lfu.okCount x)) := by
 refine fn0 (nt := 11) (F0 := [(0, .agg #[Vi x.key, Vi x.count])]) Tryz.func97 rfl Tryz.ntmps97 rfl rfl (fun w0 hpre => ?_)
 refine c_seq (c_region ?_)
 refine o_box (v := .agg #[Vi x.key, Vi x.count]) rfl rfl (fun B1 => ?_)
 refine o_as rfl rfl ?_
 refine o_nil (q_then (c_seq (c_region ?_)))
 refine o_p (p_fieldAddr (j' := 1) rfl fo141_1 rfl) ?_
 refine o_p (p_load (i := 0) (v := Vi x.count) rfl rfl sh3 rfl) ?_
 refine o_p (p_lt rfl rfl) ?_
 refine o_mv rfl rfl ?_
 refine o_or (p := 10) 4 (decide (1099511627776 < x.count)) ?_ ?_ ?_
 ·intro hb2 hk
  simp only [decide_eq_false_iff_not, Int.not_lt] at hb2
  refine o_unguard 6 rfl rfl ?_
  refine o_p (p_fieldAddr (j' := 1) rfl fo141_1 rfl) ?_
  refine o_unguard 6 rfl rfl ?_
  refine o_p (p_load (i := 0) (v := Vi x.count) rfl rfl sh3 rfl) ?_
  refine o_unguard 6 rfl rfl ?_
  refine o_p (p_gt rfl rfl) ?_
  refine o_pf rfl rfl rfl ?_
  exact o_sub (sr (Sub.skip rfl (Sub.skip rfl (Sub.skip rfl (Sub.skip rfl (Sub.skip rfl (Sub.refl _))))))) hk
 ·intro hb2 hk
  refine o_guard_no rfl 6 rfl rfl rfl rfl rfl ?_
  refine o_guard_no rfl 6 rfl rfl rfl rfl rfl ?_
  refine o_guard_no rfl 6 rfl rfl rfl rfl rfl ?_
  refine o_pt rfl rfl rfl ?_
  exact o_sub (sr (Sub.skip rfl (Sub.skip rfl (Sub.skip rfl (Sub.skip rfl (Sub.skip rfl (Sub.refl _))))))) hk
 refine o_as rfl rfl ?_
 refine o_nil (q_then (c_ret ?_))
 have hr0 : ((decide (x.count < 1) || decide (1099511627776 < x.count)) : Bool) = (!Lfu.okCount x) := by
  simp only [Lfu.okCount]; grind
 refine q_end0 (v := .bool (decide (x.count < 1) || decide (1099511627776 < x.count))) (rt1 rfl (r_tmp rfl)) (i := 1) rfl ?_
 exact (by have hcc := congrArg (fun (y0 : Bool) => (.bool y0 : Value)) hr0; exact hcc)

set_option maxHeartbeats 8000000 in
set_option maxRecDepth 100000 in
theorem fcheck_ok (u : DUses) (au_0 : Option Addr) (cu_0 : Nat) : Fn0 Tryz.prog 60 [.agg #[Vi u.room, .slice au_0 u.list.length cu_0]] (fun w => Rd tUse w au_0 cu_0 u.list) (Vi (Lfu.check u)) := by
 refine fn0 (nt := 40) (F0 := [(0, .agg #[Vi u.room, .slice au_0 u.list.length cu_0])]) Tryz.func60 rfl Tryz.ntmps60 rfl rfl (fun w0 hpre => ?_)
 have hu_0 := hpre
 have hlhu_0 := hu_0.2.1
 refine c_seq (c_region ?_)
 refine o_box (v := .agg #[Vi u.room, .slice au_0 u.list.length cu_0]) rfl rfl (fun B1 => ?_)
 refine o_as rfl rfl ?_
 refine o_nil (q_then (c_seq (c_block (c_seq (c_region ?_)))))
 refine o_p (p_fieldAddr (j' := 0) rfl fo67_0 rfl) ?_
 refine o_p (p_load (i := 0) (v := Vi u.room) rfl rfl sh3 rfl) ?_
 refine o_call0 (v := .bool (Lru.okRoom u.room)) rfl (room_ok u.room) hf36 (fun _ _ => trivial) rfl ?_
 refine o_p (p_not (b := (Lru.okRoom u.room)) rfl) ?_
 refine o_as rfl rfl ?_
 refine o_nil (q_then ?_)
 refine c_cond rfl (fun hc2 => ?_) (fun hc2 => ?_)
 ·simp only [Bool.not_eq_true'] at hc2
  refine c_seq (c_region ?_)
  refine o_as rfl rfl ?_
  refine o_nil (q_then (c_ret ?_))
  refine q_block_ret (q_then_ret ?_)
  have hr0 : (3 : Int) = (Lfu.check u) := by
   first | exact Lfu.chk1 (by assumption) | exact Lfu.chk2 (by assumption) (by omega) | exact Lfu.chk3 hka (by assumption) (by omega) (by assumption) | exact Lfu.chk4 hka (by assumption) (by omega) (by assumption) (by assumption) | exact Lfu.chk5 hka (by assumption) (by omega) (by assumption) (by assumption)
  refine q_end0 (v := Vi 3) (rt1 rfl (r_tmp rfl)) (i := 1) rfl ?_
  exact (by have hcc := congrArg (fun (y0 : Int) => (.int .i64 y0 : Value)) hr0; exact hcc)
 ·simp only [Bool.not_eq_false'] at hc2
  have hroom := Lru.room_ok hc2
  refine c_seq (c_region ?_)
  refine o_p (p_fieldAddr (j' := 1) rfl fo67_1 rfl) ?_
  refine o_p (p_load (i := 0) (v := .slice au_0 u.list.length cu_0) rfl rfl sh65 rfl) ?_
  refine o_p (p_len_slice rfl rfl Tryz.underlying65) ?_
  refine o_p (p_fieldAddr (j' := 0) rfl fo67_0 rfl) ?_
  refine o_p (p_load (i := 0) (v := Vi u.room) rfl rfl sh3 rfl) ?_
  refine o_p (p_gt rfl rfl) ?_
  refine o_as rfl rfl ?_
  refine o_nil (q_then ?_)
  refine c_cond rfl (fun hc3 => ?_) (fun hc3 => ?_)
  ·simp only [decide_eq_true_eq] at hc3
   refine c_seq (c_region ?_)
   refine o_as rfl rfl ?_
   refine o_nil (q_then (c_ret ?_))
   refine q_block_ret (q_then_ret ?_)
   have hr0 : (2 : Int) = (Lfu.check u) := by
    first | exact Lfu.chk1 (by assumption) | exact Lfu.chk2 (by assumption) (by omega) | exact Lfu.chk3 hka (by assumption) (by omega) (by assumption) | exact Lfu.chk4 hka (by assumption) (by omega) (by assumption) (by assumption) | exact Lfu.chk5 hka (by assumption) (by omega) (by assumption) (by assumption)
   refine q_end0 (v := Vi 2) (rt1 rfl (r_tmp rfl)) (i := 1) rfl ?_
   exact (by have hcc := congrArg (fun (y0 : Int) => (.int .i64 y0 : Value)) hr0; exact hcc)
  ·simp only [decide_eq_false_iff_not, Int.not_lt] at hc3
   refine c_skip ?_
   refine q_block_normal (q_then ?_)
   refine c_seq (c_region ?_)
   refine o_as rfl rfl ?_
   refine o_nil (q_then (c_seq (c_seq (c_region ?_))))
   refine o_p (p_fieldAddr (j' := 1) rfl fo67_1 rfl) ?_
   refine o_p (p_load (i := 0) (v := .slice au_0 u.list.length cu_0) rfl rfl sh65 rfl) ?_
   refine o_p (p_len_slice rfl rfl Tryz.underlying65) ?_
   refine o_mv rfl rfl ?_
   refine o_nil (q_then (c_block ?_))
   refine c_ownNil tInt ?_
   refine c_loop (St := List Int × Option Addr × Nat × (Nat → Prop) × Nat)
    (fun ⟨keys, akeys, ckeys, Skeys, k⟩ => [(1, .pointer (some ⟨B1, 0, none⟩)), (3, .slice akeys keys.length ckeys), (20, .slice au_0 u.list.length cu_0), (21, Vi (u.list.length : Int)), (22, Vi (k : Int))])
    (fun ⟨keys, akeys, ckeys, Skeys, k⟩ => [own tInt Skeys akeys ckeys keys, box B1 [Vi u.room, .slice au_0 u.list.length cu_0] 67, base w0])
    (fun ⟨keys, akeys, ckeys, Skeys, k⟩ => k ≤ u.list.length ∧ keys = Lfu.keysOf (u.list.take k))
    (fun ⟨keys, akeys, ckeys, Skeys, k⟩ => u.list.length - k)
    ([], none, 0, (fun _ => False), 0) ?_ (sr (sr (sr (sr (sr (Sub.nil _)))))) (fun _ hw => hw) ?_
   ·exact ⟨Nat.zero_le _, rfl⟩
   rintro ⟨keys, akeys, ckeys, Skeys, k⟩ hI K hK5
   have hkl : keys.length = k := by rw [hI.2]; exact Lfu.keys_len hI.1
   show SC _ _ Tryz.prog 40 w0 _ _ [(1, .pointer (some ⟨B1, 0, none⟩)), (3, .slice akeys keys.length ckeys), (20, .slice au_0 u.list.length cu_0), (21, Vi (u.list.length : Int)), (22, Vi (k : Int))] [own tInt Skeys akeys ckeys keys, box B1 [Vi u.room, .slice au_0 u.list.length cu_0] 67, base w0]
   refine c_seq (c_region ?_)
   refine o_p (p_lt rfl rfl) ?_
   refine o_nil (q_then (c_seq ?_))
   refine c_cond rfl (fun hc6 => ?_) (fun hc6 => ?_)
   ·simp only [decide_eq_true_eq] at hc6
    refine c_skip (q_then (c_seq (c_block (c_seq (c_region ?_)))))
    refine o_p (p_indexAddr (L := u.list) (T := tUse) (i := (k : Int)) rfl rfl (rd_base (i := 2) rfl hu_0) Tryz.underlying65 sz141 (by omega) (by omega)) ?_
    refine o_p (p_loadEn (i := k) (T := tUse) (L := u.list) (vs := [Vi ((u.list[k]).key), Vi ((u.list[k]).count)]) rfl (rd_base (i := 2) rfl hu_0) (by first | assumption | omega) sh141 rfl) ?_
    refine o_alloc ze141 rfl (fun B7 => ?_)
    refine o_storeN (i := 0) (vs := [Vi ((u.list[k]).key), Vi ((u.list[k]).count)]) (cs' := [Vi ((u.list[k]).key), Vi ((u.list[k]).count)]) rfl rfl rfl sz141 rfl rfl rfl rfl ?_
    refine o_nil (q_then (c_region ?_))
    refine o_mv rfl rfl ?_
    refine o_p (p_fieldAddr (j' := 0) rfl fo141_0 rfl) ?_
    refine o_p (p_load (i := 0) (v := Vi ((u.list[k]).key)) rfl rfl sh3 rfl) ?_
    refine o_buildSlice (m := 1) (T := tInt) (L := [(u.list[k]).key]) (vs := [Vi ((u.list[k]).key)]) rfl rfl rfl rfl Tryz.underlying26 sz3 (by decide) ze3 rfl (by decide) rfl (fun S8 a9 => ?_)
    refine o_append (i := 2) (L := keys) (M := [(u.list[k]).key]) (T := tInt) rfl rfl rfl (rd_own (i := 0) rfl) Tryz.underlying26 Tryz.underlying26 (by intro k h; cases h) el3 (by intro z; simp [tInt, one1]) (by decide) (by first | omega | (simp only [List.length_cons, List.length_nil]; omega) | (simp only [List.length_append, List.length_cons, List.length_nil, List.length_take, List.length_drop]; omega)) rfl (fun a11 c12 S13 => ?_)
    refine o_as rfl rfl ?_
    refine o_nil ?_
    refine q_block_normal (q_then ?_)
    refine c_region ?_
    refine o_p (p_addb rfl rfl (by omega)) ?_
    refine o_mv rfl rfl ?_
    refine o_nil ?_
    refine q_round hK5 ((keys ++ [(u.list[k]).key]), a11, c12, S13, k + 1) ?_ ?_ ?_ ?_
    ·clear hK5
     exact ⟨by omega, (congrArg (fun z => z ++ [_]) hI.2).trans (Lfu.keys_step (by omega))⟩
    ·(try dsimp only); omega
    ·exact sr (sr (sr (sr (sr (Sub.nil _)))))
    ·exact pk [2, 3, 4]
   ·simp only [decide_eq_false_iff_not, Int.not_lt] at hc6
    have hka := hI.2.trans (Lfu.keys_all (by omega))
    refine c_exit ?_
    refine q_then_exit (q_then_exit (q_block_exit (q_then ?_)))
    refine c_seq (c_seq (c_region ?_))
    refine o_mv rfl rfl ?_
    refine o_call0 (v := Vi (Lru.keys keys)) rfl (keys_ok keys akeys ckeys) hf37 (fun w hw => (rd_own (i := 0) rfl) w hw) rfl ?_
    refine o_as rfl rfl ?_
    refine o_nil (q_then (c_seq (c_region ?_)))
    refine o_mv rfl rfl ?_
    refine o_p (p_ne rfl rfl) ?_
    refine o_nil (q_then ?_)
    refine c_cond rfl (fun hc14 => ?_) (fun hc14 => ?_)
    ·simp only [bne_iff_ne, ne_eq] at hc14
     refine c_seq (c_region ?_)
     refine o_mv rfl rfl ?_
     refine o_as rfl rfl ?_
     refine o_nil (q_then (c_ret ?_))
     refine q_then_ret ?_
     have hr0 : ((Lru.keys keys) : Int) = (Lfu.check u) := by
      first | exact Lfu.chk1 (by assumption) | exact Lfu.chk2 (by assumption) (by omega) | exact Lfu.chk3 hka (by assumption) (by omega) (by assumption) | exact Lfu.chk4 hka (by assumption) (by omega) (by assumption) (by assumption) | exact Lfu.chk5 hka (by assumption) (by omega) (by assumption) (by assumption)
     refine q_end0 (v := Vi (Lru.keys keys)) (rt1 rfl (r_tmp rfl)) (i := 2) rfl ?_
     exact (by have hcc := congrArg (fun (y0 : Int) => (.int .i64 y0 : Value)) hr0; exact hcc)
    ·simp only [bne_eq_false_iff_eq] at hc14
     refine c_skip (q_then (c_seq (c_seq (c_region ?_))))
     refine o_p (p_fieldAddr (j' := 1) rfl fo67_1 rfl) ?_
     refine o_p (p_load (i := 1) (v := .slice au_0 u.list.length cu_0) rfl rfl sh65 rfl) ?_
     refine o_call0 (v := .bool (u.list.any (fun x : DUse => (!Lfu.okCount x)))) rfl (containsFunc_Use_ok u.list au_0 cu_0 97 [] (fun x => (!Lfu.okCount x)) (fun _ => True) (fun _ _ _ h => h) (fun x => fcheck1_ok x) hf97) hf96 (fun w hw => ⟨(rd_base (i := 2) rfl hu_0) w hw, trivial⟩) rfl ?_
     refine o_nil (q_then ?_)
     refine c_cond rfl (fun hc15 => ?_) (fun hc15 => ?_)
     ·skip
      refine c_seq (c_region ?_)
      refine o_as rfl rfl ?_
      refine o_nil (q_then (c_ret ?_))
      refine q_then_ret ?_
      have hr0 : (3 : Int) = (Lfu.check u) := by
       first | exact Lfu.chk1 (by assumption) | exact Lfu.chk2 (by assumption) (by omega) | exact Lfu.chk3 hka (by assumption) (by omega) (by assumption) | exact Lfu.chk4 hka (by assumption) (by omega) (by assumption) (by assumption) | exact Lfu.chk5 hka (by assumption) (by omega) (by assumption) (by assumption)
      refine q_end0 (v := Vi 3) (rt1 rfl (r_tmp rfl)) (i := 2) rfl ?_
      exact (by have hcc := congrArg (fun (y0 : Int) => (.int .i64 y0 : Value)) hr0; exact hcc)
     ·skip
      refine c_skip (q_then (c_seq (c_region ?_)))
      refine o_as rfl rfl ?_
      refine o_nil (q_then (c_ret ?_))
      have hr0 : (0 : Int) = (Lfu.check u) := by
       first | exact Lfu.chk1 (by assumption) | exact Lfu.chk2 (by assumption) (by omega) | exact Lfu.chk3 hka (by assumption) (by omega) (by assumption) | exact Lfu.chk4 hka (by assumption) (by omega) (by assumption) (by assumption) | exact Lfu.chk5 hka (by assumption) (by omega) (by assumption) (by assumption)
      refine q_end0 (v := Vi 0) (rt1 rfl (r_tmp rfl)) (i := 2) rfl ?_
      exact (by have hcc := congrArg (fun (y0 : Int) => (.int .i64 y0 : Value)) hr0; exact hcc)

set_option maxHeartbeats 8000000 in
set_option maxRecDepth 100000 in
theorem fowned_ok (u : DUses) (au_0 : Option Addr) (cu_0 : Nat) (hy1 : u.list.length ≤ 1000000) : FnX Tryz.prog 61 [.agg #[Vi u.room, .slice au_0 u.list.length cu_0]] [] (fun w => SlR tUse (outer w []).S w au_0 cu_0 u.list) (Nat × Option Addr × Nat × (Nat → Prop)) (fun p => .pointer (some ⟨p.1, 0, none⟩)) (fun p => [box p.1 [Vi u.room, .slice p.2.1 u.list.length p.2.2.1] 106, own tUse p.2.2.2 p.2.1 p.2.2.1 u.list]) := by
 refine fnX (nt := 10) (F0 := [(0, .agg #[Vi u.room, .slice au_0 u.list.length cu_0])]) Tryz.func61 rfl Tryz.ntmps61 rfl rfl (fun w0 hpre => ?_)
 have hu_0 := hpre
 have hlhu_0 := hu_0.2.1
 refine c_seq (c_region ?_)
 refine o_box (v := .agg #[Vi u.room, .slice au_0 u.list.length cu_0]) rfl rfl (fun B1 => ?_)
 refine o_as rfl rfl ?_
 refine o_nil (q_then (c_seq (c_region ?_)))
 refine o_p (p_fieldAddr (j' := 1) rfl fo67_1 rfl) ?_
 refine o_p (p_load (i := 0) (v := .slice au_0 u.list.length cu_0) rfl rfl sh65 rfl) ?_
 refine o_callM rfl (clone_Use_ok u.list au_0 cu_0 (by first | assumption | omega | (simp only [List.length_append, List.length_take, List.length_drop, List.length_cons, List.length_nil]; omega))) hf98 (fun w hw => (rd_outer (i := 1) rfl hu_0) w hw) rfl (fun _ _ _ _ ha hA => SlO.agree ha hA) ?_
 rintro ⟨a4, c5⟩ S2
 refine o_know (fun w hw => own_len (i := 0) (T := tUse) hw rfl) (fun hlr6 => ?_)
 refine o_p (p_fieldAddr (j' := 1) rfl fo67_1 rfl) ?_
 refine o_store (i := 1) (v := .slice a4 u.list.length c5) (cs' := [Vi u.room, .slice a4 u.list.length c5]) rfl rfl rfl sz65 rfl rfl rfl ?_
 refine o_nil (q_then (c_seq (c_region ?_)))
 refine o_p (p_load_agg (i := 1) (vs := [Vi u.room, .slice a4 u.list.length c5]) rfl rfl sh67 rfl rfl) ?_
 refine o_p (p_build (cells := [Vi u.room, .slice a4 u.list.length c5]) fp106 ze106 rfl rfl) ?_
 refine o_box (v := .agg #[Vi u.room, .slice a4 u.list.length c5]) rfl rfl (fun B7 => ?_)
 refine o_as rfl rfl ?_
 refine o_nil (q_then (c_ret ?_))
 refine q_endX (p := (B7, a4, c5, S2)) (rt1 rfl (r_tmp rfl)) ?_ (fun w hw => ?_)
 ·exact rfl
 ·have h2 := hw.pick (H' := [outer w0 [], box B7 [Vi u.room, .slice a4 u.list.length c5] 106, own tUse S2 a4 c5 u.list]) [3, 0, 1] (by decide) rfl
  exact Eq.mp (congrArg (fun z => HeapIs w0 ((outer w0 []) :: z) w) (rfl)) h2

set_option maxHeartbeats 8000000 in
set_option maxRecDepth 100000 in
theorem fleast_ok (Bb : Nat) (u : DUses) (au_0 : Option Addr) (cu_0 : Nat) : Fn0 Tryz.prog 102 [.pointer (some ⟨Bb, 0, none⟩)] (fun w => Rd tUse w au_0 cu_0 u.list ∧ (box Bb [Vi u.room, .slice au_0 u.list.length cu_0] 106).A w) (Vi (Lfu.least u.list : Int)) := by
 refine fn0 (nt := 32) (F0 := [(0, .pointer (some ⟨Bb, 0, none⟩))]) Tryz.func102 rfl Tryz.ntmps102 rfl rfl (fun w0 hpre => ?_)
 obtain ⟨hb_0, hBb⟩ := hpre
 have hlhb_0 := hb_0.2.1
 refine c_seq (c_region ?_)
 refine o_as rfl rfl ?_
 refine o_nil (q_then (c_seq (c_region ?_)))
 refine o_as rfl rfl ?_
 refine o_nil (q_then (c_seq (c_seq (c_region ?_))))
 refine o_mv rfl rfl ?_
 refine o_p (p_nilCheck rfl) ?_
 refine o_p (p_fieldAddr (j' := 0) rfl fo106_0 rfl) ?_
 refine o_p (p_fieldAddr (j' := 1) rfl fo67_1 rfl) ?_
 refine o_p (p_loadR (v := .slice au_0 u.list.length cu_0) rfl (rbox_base (i := 0) rfl hBb) sh65 rfl) ?_
 refine o_p (p_len_slice rfl rfl Tryz.underlying65) ?_
 refine o_mv rfl rfl ?_
 refine o_nil (q_then (c_block ?_))
 refine c_loop (St := Int × Nat)
  (fun ⟨best, k⟩ => [(0, .pointer (some ⟨Bb, 0, none⟩)), (3, Vi best), (10, .slice au_0 u.list.length cu_0), (11, Vi (u.list.length : Int)), (12, Vi (k : Int))])
  (fun ⟨best, k⟩ => [base w0])
  (fun ⟨best, k⟩ => Lfu.BInv u.list best k)
  (fun ⟨best, k⟩ => u.list.length - k)
  (0, 0) ?_ (sr (sr (sr (sr (sr (Sub.nil _)))))) (fun _ hw => hw) ?_
 ·exact Lfu.BInv.start u.list
 rintro ⟨best, k⟩ hI K hK1
 show SC _ _ Tryz.prog 32 w0 _ _ [(0, .pointer (some ⟨Bb, 0, none⟩)), (3, Vi best), (10, .slice au_0 u.list.length cu_0), (11, Vi (u.list.length : Int)), (12, Vi (k : Int))] [base w0]
 refine c_seq (c_region ?_)
 refine o_p (p_lt rfl rfl) ?_
 refine o_nil (q_then (c_seq ?_))
 refine c_cond rfl (fun hc2 => ?_) (fun hc2 => ?_)
 ·simp only [decide_eq_true_eq] at hc2
  have hbd := hI.bd (by omega)
  refine c_skip (q_then (c_seq (c_block (c_seq (c_region ?_)))))
  refine o_mv rfl rfl ?_
  refine o_p (p_indexAddr (L := u.list) (T := tUse) (i := (k : Int)) rfl rfl (rd_base (i := 0) rfl hb_0) Tryz.underlying65 sz141 (by omega) (by omega)) ?_
  refine o_p (p_loadEn (i := k) (T := tUse) (L := u.list) (vs := [Vi ((u.list[k]).key), Vi ((u.list[k]).count)]) rfl (rd_base (i := 0) rfl hb_0) (by first | assumption | omega) sh141 rfl) ?_
  refine o_alloc ze141 rfl (fun B3 => ?_)
  refine o_as rfl rfl ?_
  refine o_storeN (i := 0) (vs := [Vi ((u.list[k]).key), Vi ((u.list[k]).count)]) (cs' := [Vi ((u.list[k]).key), Vi ((u.list[k]).count)]) rfl rfl rfl sz141 rfl rfl rfl rfl ?_
  refine o_nil (q_then (c_seq ?_))
  refine c_draw hmix (by kernel_rfl) ?_
  refine w_p (p_fieldAddr (j' := 1) rfl fo141_1 rfl) ?_
  refine w_p (p_load (i := 0) (v := Vi ((u.list[k]).count)) rfl rfl sh3 rfl) ?_
  refine w_mv rfl rfl ?_
  refine w_p (p_nilCheck rfl) ?_
  refine w_p (p_fieldAddr (j' := 0) rfl fo106_0 rfl) ?_
  refine w_p (p_fieldAddr (j' := 1) rfl fo67_1 rfl) ?_
  refine w_p (p_loadR (v := .slice au_0 u.list.length cu_0) rfl (rbox_base (i := 1) rfl hBb) sh65 rfl) ?_
  refine w_mv rfl rfl ?_
  refine w_p (p_indexAddr (L := u.list) (T := tUse) (i := best) rfl rfl (rd_base (i := 1) rfl hb_0) Tryz.underlying65 sz141 (by omega) (by omega)) ?_
  refine w_p (p_fieldAddrE rfl fo141_1) ?_
  refine w_p (p_loadF (i := best.toNat) (j := 1) (T := tUse) (L := u.list) (v := Vi ((u.list[best.toNat]).count)) rfl (rd_base (i := 1) rfl hb_0) (by first | assumption | omega) sh3 rfl) ?_
  refine w_p (p_le rfl rfl) ?_
  refine w_nil (q_then ?_)
  refine c_cond rfl (fun hc4 => ?_) (fun hc4 => ?_)
  ·simp only [decide_eq_true_eq] at hc4
   refine c_region ?_
   refine o_mv rfl rfl ?_
   refine o_as rfl rfl ?_
   refine o_nil ?_
   refine q_block_normal (q_then ?_)
   refine c_region ?_
   refine o_p (p_addb rfl rfl (by omega)) ?_
   refine o_mv rfl rfl ?_
   refine o_nil ?_
   refine q_round hK1 ((k : Int), k + 1) ?_ ?_ ?_ ?_
   ·clear hK1
    first | exact hI.less (by omega) (by omega) (by assumption) | exact hI.not (by omega) (by omega) (by omega)
   ·(try dsimp only); omega
   ·exact sr (sr (sr (sr (sr (Sub.nil _)))))
   ·exact pk [1]
  ·simp only [decide_eq_false_iff_not, Int.not_le] at hc4
   refine c_skip ?_
   refine q_block_normal (q_then ?_)
   refine c_region ?_
   refine o_p (p_addb rfl rfl (by omega)) ?_
   refine o_mv rfl rfl ?_
   refine o_nil ?_
   refine q_round hK1 (best, k + 1) ?_ ?_ ?_ ?_
   ·clear hK1
    first | exact hI.less (by omega) (by omega) (by assumption) | exact hI.not (by omega) (by omega) (by omega)
   ·(try dsimp only); omega
   ·exact sr (sr (sr (sr (sr (Sub.nil _)))))
   ·exact pk [1]
 ·simp only [decide_eq_false_iff_not, Int.not_lt] at hc2
  refine c_exit ?_
  refine q_then_exit (q_then_exit (q_block_exit (q_then ?_)))
  refine c_seq (c_region ?_)
  refine o_mv rfl rfl ?_
  refine o_as rfl rfl ?_
  refine o_nil (q_then (c_ret ?_))
  have hr0 : (best : Int) = (Lfu.least u.list : Int) := by
   exact hI.done (by omega)
  refine q_end0 (v := Vi best) (rt1 rfl (r_tmp rfl)) (i := 0) rfl ?_
  exact (by have hcc := congrArg (fun (y0 : Int) => (.int .i64 y0 : Value)) hr0; exact hcc)

set_option maxHeartbeats 8000000 in
set_option maxRecDepth 100000 in
theorem ftake_ok (u : DUses) (Bu : Nat) (au_0 : Option Addr) (cu_0 : Nat) (Su_0 : Nat → Prop) (i : Int) (hy1 : 0 ≤ i ∧ i < (u.list.length : Int) ∧ u.list.length ≤ 1000000) : FnX Tryz.prog 101 [.pointer (some ⟨Bu, 0, none⟩), Vi i] [box Bu [Vi u.room, .slice au_0 u.list.length cu_0] 106, own tUse Su_0 au_0 cu_0 u.list] (fun _ => True) (Option Addr × Nat × (Nat → Prop)) (fun p => .agg #[Vi ((u.list.getD i.toNat default).key), Vi ((u.list.getD i.toNat default).count)]) (fun p => [box Bu [Vi u.room, .slice p.1 (u.list.take i.toNat ++ u.list.drop (i + 1).toNat).length p.2.1] 106, own tUse p.2.2 p.1 p.2.1 (u.list.take i.toNat ++ u.list.drop (i + 1).toNat)]) := by
 refine fnX (nt := 28) (F0 := [(0, .pointer (some ⟨Bu, 0, none⟩)), (1, Vi i)]) Tryz.func101 rfl Tryz.ntmps101 rfl rfl (fun w0 hpre => ?_)
 refine c_know (fun w hw => own_len (i := 2) (T := tUse) hw rfl) (fun hlown_u_0 => ?_)
 obtain ⟨hcown_u_0, hlown_u_0⟩ := hlown_u_0
 refine c_seq (c_region ?_)
 refine o_alloc ze141 rfl (fun B1 => ?_)
 refine o_nil (q_then (c_seq (c_region ?_)))
 refine o_mv rfl rfl ?_
 refine o_p (p_nilCheck rfl) ?_
 refine o_p (p_fieldAddr (j' := 0) rfl fo106_0 rfl) ?_
 refine o_p (p_fieldAddr (j' := 1) rfl fo67_1 rfl) ?_
 refine o_p (p_load (i := 2) (v := .slice au_0 u.list.length cu_0) rfl rfl sh65 rfl) ?_
 refine o_mv rfl rfl ?_
 refine o_p (p_indexAddr (L := u.list) (T := tUse) (i := i) rfl rfl (rd_own (i := 3) rfl) Tryz.underlying65 sz141 (by omega) (by omega)) ?_
 refine o_p (p_loadEn (i := i.toNat) (T := tUse) (L := u.list) (vs := [Vi ((u.list[i.toNat]).key), Vi ((u.list[i.toNat]).count)]) rfl (rd_own (i := 3) rfl) (by first | assumption | omega) sh141 rfl) ?_
 refine o_alloc ze141 rfl (fun B2 => ?_)
 refine o_storeN (i := 0) (vs := [Vi ((u.list[i.toNat]).key), Vi ((u.list[i.toNat]).count)]) (cs' := [Vi ((u.list[i.toNat]).key), Vi ((u.list[i.toNat]).count)]) rfl rfl rfl sz141 rfl rfl rfl rfl ?_
 refine o_nil (q_then (c_seq (c_region ?_)))
 refine o_mv rfl rfl ?_
 refine o_mv rfl rfl ?_
 refine o_p (p_nilCheck rfl) ?_
 refine o_p (p_fieldAddr (j' := 0) rfl fo106_0 rfl) ?_
 refine o_p (p_fieldAddr (j' := 1) rfl fo67_1 rfl) ?_
 refine o_p (p_load (i := 3) (v := .slice au_0 u.list.length cu_0) rfl rfl sh65 rfl) ?_
 refine o_mv rfl rfl ?_
 refine o_mv rfl rfl ?_
 refine o_p (p_addb rfl rfl (by omega)) ?_
 refine o_pick (H' := [own tUse Su_0 au_0 cu_0 u.list, box B2 [Vi ((u.list[i.toNat]).key), Vi ((u.list[i.toNat]).count)] 141, box B1 [Vi 0, Vi 0] 141, outer w0 [box Bu [Vi u.room, .slice au_0 u.list.length cu_0] 106, own tUse Su_0 au_0 cu_0 u.list], box Bu [Vi u.room, .slice au_0 u.list.length cu_0] 106]) [4, 0, 1, 2, 3] (by decide) rfl ?_
 refine o_callX (pre := [own tUse Su_0 au_0 cu_0 u.list]) (R := [box B2 [Vi ((u.list[i.toNat]).key), Vi ((u.list[i.toNat]).count)] 141, box B1 [Vi 0, Vi 0] 141, outer w0 [box Bu [Vi u.room, .slice au_0 u.list.length cu_0] 106, own tUse Su_0 au_0 cu_0 u.list], box Bu [Vi u.room, .slice au_0 u.list.length cu_0] 106]) rfl (delete_Use_ok u.list au_0 cu_0 Su_0 i (i + 1) (by omega)) hf125 rfl (fun _ _ => trivial) rfl ?_
 rintro ⟨a3, c4, S5⟩
 refine o_asH (H' := [own tUse S5 a3 c4 (u.list.take i.toNat ++ u.list.drop (i + 1).toNat), box B2 [Vi ((u.list[i.toNat]).key), Vi ((u.list[i.toNat]).count)] 141, box B1 [Vi 0, Vi 0] 141, outer w0 [box Bu [Vi u.room, .slice au_0 u.list.length cu_0] 106, own tUse Su_0 au_0 cu_0 u.list], box Bu [Vi u.room, .slice au_0 u.list.length cu_0] 106]) rfl ?_
 refine o_p (p_nilCheck rfl) ?_
 refine o_p (p_fieldAddr (j' := 0) rfl fo106_0 rfl) ?_
 refine o_p (p_fieldAddr (j' := 1) rfl fo67_1 rfl) ?_
 refine o_store (i := 4) (v := .slice a3 (u.list.take i.toNat ++ u.list.drop (i + 1).toNat).length c4) (cs' := [Vi u.room, .slice a3 (u.list.take i.toNat ++ u.list.drop (i + 1).toNat).length c4]) rfl rfl rfl sz65 rfl rfl rfl ?_
 refine o_nil (q_then (c_seq (c_region ?_)))
 refine o_p (p_load_agg (i := 1) (vs := [Vi ((u.list[i.toNat]).key), Vi ((u.list[i.toNat]).count)]) rfl rfl sh141 rfl rfl) ?_
 refine o_storeN (i := 2) (vs := [Vi ((u.list[i.toNat]).key), Vi ((u.list[i.toNat]).count)]) (cs' := [Vi ((u.list[i.toNat]).key), Vi ((u.list[i.toNat]).count)]) rfl rfl rfl sz141 rfl rfl rfl rfl ?_
 refine o_nil (q_then (c_ret ?_))
 have hr2 : ((u.list[i.toNat]).key : Int) = (u.list.getD i.toNat default).key := by
  first | rfl | (simp [List.getD, show i.toNat < u.list.length by omega]; done)
 have hr3 : ((u.list[i.toNat]).count : Int) = (u.list.getD i.toNat default).count := by
  first | rfl | (simp [List.getD, show i.toNat < u.list.length by omega]; done)
 refine q_endX (p := (a3, c4, S5)) (rt1 rfl (r_cell (i := 2) rfl rfl sh141 rfl)) ?_ (fun w hw => ?_)
 ·exact (by have hcc := congr (congrArg (fun (y2 : Int) (y3 : Int) => (.agg #[.int .i64 y2, .int .i64 y3] : Value)) hr2) hr3; exact hcc)
 ·have h2 := hw.pick (H' := [outer w0 [box Bu [Vi u.room, .slice au_0 u.list.length cu_0] 106, own tUse Su_0 au_0 cu_0 u.list], box Bu [Vi u.room, .slice a3 (u.list.take i.toNat ++ u.list.drop (i + 1).toNat).length c4] 106, own tUse S5 a3 c4 (u.list.take i.toNat ++ u.list.drop (i + 1).toNat)]) [3, 4, 0] (by decide) rfl
  exact Eq.mp (congrArg (fun z => HeapIs w0 ((outer w0 [box Bu [Vi u.room, .slice au_0 u.list.length cu_0] 106, own tUse Su_0 au_0 cu_0 u.list]) :: z) w) ((by have hcc := congr (congrArg (fun (y2 : Int) (y3 : Int) => ([box Bu [Vi u.room, .slice a3 (u.list.take i.toNat ++ u.list.drop (i + 1).toNat).length c4] 106, own tUse S5 a3 c4 (u.list.take i.toNat ++ u.list.drop (i + 1).toNat)] : List Ent)) hr2) hr3; exact hcc))) h2

set_option maxHeartbeats 8000000 in
set_option maxRecDepth 100000 in
theorem ftouch1_ok (x : DUse) (Bk : Nat) (key : Int) : Fn0 Tryz.prog 100 [.agg #[Vi x.key, Vi x.count], .pointer (some ⟨Bk, 0, none⟩)] (fun w => (box Bk [Vi key] 3).A w) (.bool (x.key == key)) := by
 refine fn0 (nt := 8) (F0 := [(0, .agg #[Vi x.key, Vi x.count]), (1, .pointer (some ⟨Bk, 0, none⟩))]) Tryz.func100 rfl Tryz.ntmps100 rfl rfl (fun w0 hpre => ?_)
 have hBk := hpre
 refine c_seq (c_region ?_)
 refine o_box (v := .agg #[Vi x.key, Vi x.count]) rfl rfl (fun B1 => ?_)
 refine o_as rfl rfl ?_
 refine o_nil (q_then (c_seq (c_region ?_)))
 refine o_p (p_fieldAddr (j' := 0) rfl fo141_0 rfl) ?_
 refine o_p (p_load (i := 0) (v := Vi x.key) rfl rfl sh3 rfl) ?_
 refine o_p (p_loadR (v := Vi key) rfl (rbox_base (i := 1) rfl hBk) sh3 rfl) ?_
 refine o_p (p_eq rfl rfl) ?_
 refine o_as rfl rfl ?_
 refine o_nil (q_then (c_ret ?_))
 refine q_end0 (v := .bool (x.key == key)) (rt1 rfl (r_tmp rfl)) (i := 1) rfl ?_
 exact rfl

set_option maxHeartbeats 8000000 in
set_option maxRecDepth 100000 in
theorem ftouch_ok (u : DUses) (Bu : Nat) (au_0 : Option Addr) (cu_0 : Nat) (Su_0 : Nat → Prop) (key : Int) (hy1 : Lfu.Ok u) : FnX Tryz.prog 62 [.pointer (some ⟨Bu, 0, none⟩), Vi key] [box Bu [Vi u.room, .slice au_0 u.list.length cu_0] 106, own tUse Su_0 au_0 cu_0 u.list] (fun _ => True) (Option Addr × Nat × (Nat → Prop)) (fun p => .tuple #[.bool ((Lfu.touch u key).2.1), Vi ((Lfu.touch u key).2.2)]) (fun p => [box Bu [Vi (((Lfu.touch u key).1).room), .slice p.1 (((Lfu.touch u key).1).list).length p.2.1] 106, own tUse p.2.2 p.1 p.2.1 (((Lfu.touch u key).1).list)]) := by
 refine fnX (nt := 62) (F0 := [(0, .pointer (some ⟨Bu, 0, none⟩)), (1, Vi key)]) Tryz.func62 rfl Tryz.ntmps62 rfl rfl (fun w0 hpre => ?_)
 refine c_know (fun w hw => own_len (i := 2) (T := tUse) hw rfl) (fun hlown_u_0 => ?_)
 obtain ⟨hcown_u_0, hlown_u_0⟩ := hlown_u_0
 have hroom := hy1.room
 have hlen := hy1.len
 refine c_seq (c_region ?_)
 refine o_box (v := Vi key) rfl rfl (fun B1 => ?_)
 refine o_as rfl rfl ?_
 refine o_as rfl rfl ?_
 refine o_nil (q_then (c_seq (c_region ?_)))
 refine o_mv rfl rfl ?_
 refine o_p (p_nilCheck rfl) ?_
 refine o_p (p_fieldAddr (j' := 0) rfl fo106_0 rfl) ?_
 refine o_p (p_fieldAddr (j' := 1) rfl fo67_1 rfl) ?_
 refine o_p (p_load (i := 2) (v := .slice au_0 u.list.length cu_0) rfl rfl sh65 rfl) ?_
 refine o_p (p_makeFunc (vs := [.pointer (some ⟨B1, 0, none⟩)]) rfl) ?_
 refine o_call0 (v := Vi (idxF (fun x : DUse => (x.key == key)) u.list)) rfl (indexFunc_Use_ok u.list au_0 cu_0 100 [.pointer (some ⟨B1, 0, none⟩)] (fun x => (x.key == key)) (fun w => (box B1 [Vi key] 3).A w) (fun _ _ hb h => box_below hb h) (fun x => ftouch1_ok x B1 key) hf100) hf99 (fun w hw => ⟨(rd_own (i := 3) rfl) w hw, (hw.at (i := 0) rfl).here⟩) rfl ?_
 refine o_as rfl rfl ?_
 refine o_nil (q_then (c_seq (c_region ?_)))
 refine o_p (p_load (i := 0) (v := Vi key) rfl rfl sh3 rfl) ?_
 refine o_p (p_build (cells := [Vi key, Vi 0]) fp141 ze141 rfl rfl) ?_
 refine o_alloc ze141 rfl (fun B2 => ?_)
 refine o_storeN (i := 0) (vs := [Vi key, Vi 0]) (cs' := [Vi key, Vi 0]) rfl rfl rfl sz141 rfl rfl rfl rfl ?_
 refine o_as rfl rfl ?_
 refine o_nil (q_then (c_seq (c_block (c_seq (c_region ?_)))))
 refine o_mv rfl rfl ?_
 refine o_p (p_ge rfl rfl) ?_
 refine o_as rfl rfl ?_
 refine o_nil (q_then ?_)
 refine c_cond rfl (fun hc3 => ?_) (fun hc3 => ?_)
 ·simp only [decide_eq_true_eq] at hc3
  have hix := idxF_lt (fun x : DUse => (x.key == key)) u.list
  have hct := Lfu.count_at hy1 (i := (idxF (fun x : DUse => (x.key == key)) u.list).toNat) (by omega)
  refine c_region ?_
  refine o_mv rfl rfl ?_
  refine o_mv rfl rfl ?_
  refine o_pick (H' := [box Bu [Vi u.room, .slice au_0 u.list.length cu_0] 106, own tUse Su_0 au_0 cu_0 u.list, box B2 [Vi key, Vi 0] 141, box B1 [Vi key] 3, outer w0 [box Bu [Vi u.room, .slice au_0 u.list.length cu_0] 106, own tUse Su_0 au_0 cu_0 u.list]]) [3, 4, 0, 1, 2] (by decide) rfl ?_
  refine o_callX (pre := [box Bu [Vi u.room, .slice au_0 u.list.length cu_0] 106, own tUse Su_0 au_0 cu_0 u.list]) (R := [box B2 [Vi key, Vi 0] 141, box B1 [Vi key] 3, outer w0 [box Bu [Vi u.room, .slice au_0 u.list.length cu_0] 106, own tUse Su_0 au_0 cu_0 u.list]]) rfl (ftake_ok u Bu au_0 cu_0 Su_0 (idxF (fun x : DUse => (x.key == key)) u.list) (by omega)) hf101 rfl (fun _ _ => trivial) rfl ?_
  rintro ⟨a4, c5, S6⟩
  refine o_asH (H' := [box Bu [Vi u.room, .slice a4 (u.list.take (idxF (fun x : DUse => (x.key == key)) u.list).toNat ++ u.list.drop ((idxF (fun x : DUse => (x.key == key)) u.list) + 1).toNat).length c5] 106, own tUse S6 a4 c5 (u.list.take (idxF (fun x : DUse => (x.key == key)) u.list).toNat ++ u.list.drop ((idxF (fun x : DUse => (x.key == key)) u.list) + 1).toNat), box B2 [Vi key, Vi 0] 141, box B1 [Vi key] 3, outer w0 [box Bu [Vi u.room, .slice au_0 u.list.length cu_0] 106, own tUse Su_0 au_0 cu_0 u.list]]) rfl ?_
  refine o_storeN (i := 2) (vs := [Vi ((u.list.getD (idxF (fun x : DUse => (x.key == key)) u.list).toNat default).key), Vi ((u.list.getD (idxF (fun x : DUse => (x.key == key)) u.list).toNat default).count)]) (cs' := [Vi ((u.list.getD (idxF (fun x : DUse => (x.key == key)) u.list).toNat default).key), Vi ((u.list.getD (idxF (fun x : DUse => (x.key == key)) u.list).toNat default).count)]) rfl rfl rfl sz141 rfl rfl rfl rfl ?_
  refine o_nil ?_
  refine q_block_normal (q_then ?_)
  refine c_seq (c_region ?_)
  refine o_p (p_fieldAddr (j' := 1) rfl fo141_1 rfl) ?_
  refine o_p (p_load (i := 2) (v := Vi ((u.list.getD (idxF (fun x : DUse => (x.key == key)) u.list).toNat default).count)) rfl rfl sh3 rfl) ?_
  refine o_p (p_addb rfl rfl (by omega)) ?_
  refine o_p (p_min (p := ((u.list.getD (idxF (fun x : DUse => (x.key == key)) u.list).toNat default).count + 1)) (q := 1099511627776) rfl rfl) ?_
  refine o_p (p_fieldAddr (j' := 1) rfl fo141_1 rfl) ?_
  refine o_store (i := 2) (v := Vi (min ((u.list.getD (idxF (fun x : DUse => (x.key == key)) u.list).toNat default).count + 1) 1099511627776)) (cs' := [Vi ((u.list.getD (idxF (fun x : DUse => (x.key == key)) u.list).toNat default).key), Vi (min ((u.list.getD (idxF (fun x : DUse => (x.key == key)) u.list).toNat default).count + 1) 1099511627776)]) rfl rfl rfl sz3 rfl rfl rfl ?_
  refine o_nil (q_then (c_seq ?_))
  refine c_cut (G := Option Addr × Nat × (Nat → Prop)) (fun ⟨a8_8, c8_8, S8_8⟩ => [(6, Vi (idxF (fun x : DUse => (x.key == key)) u.list)), (8, Vi (-1))]) (fun ⟨a8_8, c8_8, S8_8⟩ => [own tUse S8_8 a8_8 c8_8 ((u.list.take (idxF (fun x : DUse => (x.key == key)) u.list).toNat ++ u.list.drop ((idxF (fun x : DUse => (x.key == key)) u.list) + 1).toNat).take (0 : Int).toNat ++ ([(⟨(u.list.getD (idxF (fun x : DUse => (x.key == key)) u.list).toNat default).key, (min ((u.list.getD (idxF (fun x : DUse => (x.key == key)) u.list).toNat default).count + 1) 1099511627776)⟩ : DUse)]) ++ (u.list.take (idxF (fun x : DUse => (x.key == key)) u.list).toNat ++ u.list.drop ((idxF (fun x : DUse => (x.key == key)) u.list) + 1).toNat).drop (0 : Int).toNat), box Bu [Vi u.room, .slice a8_8 ((u.list.take (idxF (fun x : DUse => (x.key == key)) u.list).toNat ++ u.list.drop ((idxF (fun x : DUse => (x.key == key)) u.list) + 1).toNat).take (0 : Int).toNat ++ ([(⟨(u.list.getD (idxF (fun x : DUse => (x.key == key)) u.list).toNat default).key, (min ((u.list.getD (idxF (fun x : DUse => (x.key == key)) u.list).toNat default).count + 1) 1099511627776)⟩ : DUse)]) ++ (u.list.take (idxF (fun x : DUse => (x.key == key)) u.list).toNat ++ u.list.drop ((idxF (fun x : DUse => (x.key == key)) u.list) + 1).toNat).drop (0 : Int).toNat).length c8_8] 106, box B2 [Vi ((u.list.getD (idxF (fun x : DUse => (x.key == key)) u.list).toNat default).key), Vi (min ((u.list.getD (idxF (fun x : DUse => (x.key == key)) u.list).toNat default).count + 1) 1099511627776)] 141, box B1 [Vi key] 3, outer w0 [box Bu [Vi u.room, .slice au_0 u.list.length cu_0] 106, own tUse Su_0 au_0 cu_0 u.list]]) (fun K hK9 => ?_) ?_
  ·refine c_held hmix [box B2 [Vi ((u.list.getD (idxF (fun x : DUse => (x.key == key)) u.list).toNat default).key), Vi (min ((u.list.getD (idxF (fun x : DUse => (x.key == key)) u.list).toNat default).count + 1) 1099511627776)] 141, box B1 [Vi key] 3, outer w0 [box Bu [Vi u.room, .slice au_0 u.list.length cu_0] 106, own tUse Su_0 au_0 cu_0 u.list]] rfl rfl ?_
   refine h_tk (i := 0) (ls := #[T1,F0,F0,F0,F0,F0,F0,F0,F0,F0,F0,F0,F0]) rfl (p_move rfl) (dp (lz (lz (lj (lj (lj (ln))))))) ?_
   refine h_tk (i := 1) (ls := #[T1,T1,F0,F0,F0,F0,F0,F0,F0,F0,F0,F0,F0]) rfl (p_move rfl) (dp (lz (lz (lj (lj (lj (ln))))))) ?_
   refine h_tk (i := 2) (ls := #[T1,T1,T1,F0,F0,F0,F0,F0,F0,F0,F0,F0,F0]) rfl (p_nilCheck rfl) (dp (lz (lz (lj (lj (lj (ln))))))) ?_
   refine h_tk (i := 3) (ls := #[T1,T1,T1,T1,F0,F0,F0,F0,F0,F0,F0,F0,F0]) rfl (p_fieldAddr (j' := 0) rfl fo106_0 rfl) (dp (lz (lz (lj (lj (lj (ln))))))) ?_
   refine h_tk (i := 4) (ls := #[T1,T1,T1,T1,T1,F0,F0,F0,F0,F0,F0,F0,F0]) rfl (p_fieldAddr (j' := 1) rfl fo67_1 rfl) (dp (lz (lz (lj (lj (lj (ln))))))) ?_
   refine h_tk (i := 6) (ls := #[T1,T1,T1,T1,T1,F0,T1,F0,F0,F0,F0,F0,F0]) rfl (p_load_agg (i := 0) (vs := [Vi ((u.list.getD (idxF (fun x : DUse => (x.key == key)) u.list).toNat default).key), Vi (min ((u.list.getD (idxF (fun x : DUse => (x.key == key)) u.list).toNat default).count + 1) 1099511627776)]) rfl rfl sh141 rfl rfl) (dp (lz (lz (lj (lj (lj (ln))))))) ?_
   refine h_two (i := 5) (j := 7) (ls := #[T1,T1,T1,T1,T1,T1,T1,F0,F0,F0,F0,F0,F0]) (ls' := #[T1,T1,T1,T1,T1,F0,T1,T1,F0,F0,F0,F0,F0]) (by kernel_rfl) rfl rfl rfl rfl ?_ ?_
   ·refine o_p (p_load (i := 0) (v := .slice a4 (u.list.take (idxF (fun x : DUse => (x.key == key)) u.list).toNat ++ u.list.drop ((idxF (fun x : DUse => (x.key == key)) u.list) + 1).toNat).length c5) rfl rfl sh65 rfl) ?_
    refine o_nil ?_
    refine h_next (dp (lz (lz (lj (lj (lj (ln))))))) ?_
    refine h_one (i := 7) (ls := #[T1,T1,T1,T1,T1,T1,T1,T1,F0,F0,F0,F0,F0]) (by kernel_rfl) rfl rfl ?_
    refine o_buildSlice (m := 1) (T := tUse) (L := [(⟨(u.list.getD (idxF (fun x : DUse => (x.key == key)) u.list).toNat default).key, (min ((u.list.getD (idxF (fun x : DUse => (x.key == key)) u.list).toNat default).count + 1) 1099511627776)⟩ : DUse)]) (vs := [.agg #[Vi ((u.list.getD (idxF (fun x : DUse => (x.key == key)) u.list).toNat default).key), Vi (min ((u.list.getD (idxF (fun x : DUse => (x.key == key)) u.list).toNat default).count + 1) 1099511627776)]]) rfl rfl rfl rfl Tryz.underlying65 sz141 (by decide) ze141 rfl (by decide) rfl (fun S8_7 a8_7 => ?_)
    refine o_nil ?_
    refine h_next (dp (lz (lz (lz (lj (lj (lj (ln)))))))) ?_
    refine h_one (i := 8) (ls := #[T1,T1,T1,T1,T1,T1,T1,T1,T1,F0,F0,F0,F0]) (by kernel_rfl) rfl rfl ?_
    refine o_pick (H' := [own tUse S6 a4 c5 (u.list.take (idxF (fun x : DUse => (x.key == key)) u.list).toNat ++ u.list.drop ((idxF (fun x : DUse => (x.key == key)) u.list) + 1).toNat), own tUse S8_7 a8_7 ([(⟨(u.list.getD (idxF (fun x : DUse => (x.key == key)) u.list).toNat default).key, (min ((u.list.getD (idxF (fun x : DUse => (x.key == key)) u.list).toNat default).count + 1) 1099511627776)⟩ : DUse)].length) ([(⟨(u.list.getD (idxF (fun x : DUse => (x.key == key)) u.list).toNat default).key, (min ((u.list.getD (idxF (fun x : DUse => (x.key == key)) u.list).toNat default).count + 1) 1099511627776)⟩ : DUse)]), box Bu [Vi u.room, .slice a4 (u.list.take (idxF (fun x : DUse => (x.key == key)) u.list).toNat ++ u.list.drop ((idxF (fun x : DUse => (x.key == key)) u.list) + 1).toNat).length c5] 106, box B2 [Vi ((u.list.getD (idxF (fun x : DUse => (x.key == key)) u.list).toNat default).key), Vi (min ((u.list.getD (idxF (fun x : DUse => (x.key == key)) u.list).toNat default).count + 1) 1099511627776)] 141, box B1 [Vi key] 3, outer w0 [box Bu [Vi u.room, .slice au_0 u.list.length cu_0] 106, own tUse Su_0 au_0 cu_0 u.list]]) [2, 0, 1, 3, 4, 5] (by decide) rfl ?_
    refine o_callX (pre := [own tUse S6 a4 c5 (u.list.take (idxF (fun x : DUse => (x.key == key)) u.list).toNat ++ u.list.drop ((idxF (fun x : DUse => (x.key == key)) u.list) + 1).toNat), own tUse S8_7 a8_7 ([(⟨(u.list.getD (idxF (fun x : DUse => (x.key == key)) u.list).toNat default).key, (min ((u.list.getD (idxF (fun x : DUse => (x.key == key)) u.list).toNat default).count + 1) 1099511627776)⟩ : DUse)].length) ([(⟨(u.list.getD (idxF (fun x : DUse => (x.key == key)) u.list).toNat default).key, (min ((u.list.getD (idxF (fun x : DUse => (x.key == key)) u.list).toNat default).count + 1) 1099511627776)⟩ : DUse)])]) (R := [box Bu [Vi u.room, .slice a4 (u.list.take (idxF (fun x : DUse => (x.key == key)) u.list).toNat ++ u.list.drop ((idxF (fun x : DUse => (x.key == key)) u.list) + 1).toNat).length c5] 106, box B2 [Vi ((u.list.getD (idxF (fun x : DUse => (x.key == key)) u.list).toNat default).key), Vi (min ((u.list.getD (idxF (fun x : DUse => (x.key == key)) u.list).toNat default).count + 1) 1099511627776)] 141, box B1 [Vi key] 3, outer w0 [box Bu [Vi u.room, .slice au_0 u.list.length cu_0] 106, own tUse Su_0 au_0 cu_0 u.list]]) rfl (insert_Use_ok (u.list.take (idxF (fun x : DUse => (x.key == key)) u.list).toNat ++ u.list.drop ((idxF (fun x : DUse => (x.key == key)) u.list) + 1).toNat) a4 c5 S6 (0 : Int) ([(⟨(u.list.getD (idxF (fun x : DUse => (x.key == key)) u.list).toNat default).key, (min ((u.list.getD (idxF (fun x : DUse => (x.key == key)) u.list).toNat default).count + 1) 1099511627776)⟩ : DUse)]) a8_7 ([(⟨(u.list.getD (idxF (fun x : DUse => (x.key == key)) u.list).toNat default).key, (min ((u.list.getD (idxF (fun x : DUse => (x.key == key)) u.list).toNat default).count + 1) 1099511627776)⟩ : DUse)].length) S8_7 (by (try simp only [List.length_cons, List.length_nil, List.length_append, List.length_take, List.length_drop, and_true]); omega)) hf103 rfl (fun _ _ => trivial) rfl ?_
    rintro ⟨a8_8, c8_8, S8_8⟩
    refine o_asH (H' := [own tUse S8_8 a8_8 c8_8 ((u.list.take (idxF (fun x : DUse => (x.key == key)) u.list).toNat ++ u.list.drop ((idxF (fun x : DUse => (x.key == key)) u.list) + 1).toNat).take (0 : Int).toNat ++ ([(⟨(u.list.getD (idxF (fun x : DUse => (x.key == key)) u.list).toNat default).key, (min ((u.list.getD (idxF (fun x : DUse => (x.key == key)) u.list).toNat default).count + 1) 1099511627776)⟩ : DUse)]) ++ (u.list.take (idxF (fun x : DUse => (x.key == key)) u.list).toNat ++ u.list.drop ((idxF (fun x : DUse => (x.key == key)) u.list) + 1).toNat).drop (0 : Int).toNat), box Bu [Vi u.room, .slice a4 (u.list.take (idxF (fun x : DUse => (x.key == key)) u.list).toNat ++ u.list.drop ((idxF (fun x : DUse => (x.key == key)) u.list) + 1).toNat).length c5] 106, box B2 [Vi ((u.list.getD (idxF (fun x : DUse => (x.key == key)) u.list).toNat default).key), Vi (min ((u.list.getD (idxF (fun x : DUse => (x.key == key)) u.list).toNat default).count + 1) 1099511627776)] 141, box B1 [Vi key] 3, outer w0 [box Bu [Vi u.room, .slice au_0 u.list.length cu_0] 106, own tUse Su_0 au_0 cu_0 u.list]]) rfl ?_
    refine o_nil ?_
    refine h_next (dp (lz (lz (lj (lj (lj (ln))))))) ?_
    refine h_tk (i := 9) (ls := #[T1,T1,T1,T1,T1,T1,T1,T1,T1,T1,F0,F0,F0]) rfl (p_nilCheck rfl) (dp (lz (lz (lj (lj (lj (ln))))))) ?_
    refine h_tk (i := 10) (ls := #[T1,T1,T1,T1,T1,T1,T1,T1,T1,T1,T1,F0,F0]) rfl (p_fieldAddr (j' := 0) rfl fo106_0 rfl) (dp (lz (lz (lj (lj (lj (ln))))))) ?_
    refine h_tk (i := 11) (ls := #[T1,T1,T1,T1,T1,T1,T1,T1,T1,T1,T1,T1,F0]) rfl (p_fieldAddr (j' := 1) rfl fo67_1 rfl) (dp (lz (lz (lj (lj (lj (ln))))))) ?_
    refine h_one (i := 12) (ls := #[T1,T1,T1,T1,T1,T1,T1,T1,T1,T1,T1,T1,T1]) (by kernel_rfl) rfl rfl ?_
    refine o_store (i := 1) (v := .slice a8_8 ((u.list.take (idxF (fun x : DUse => (x.key == key)) u.list).toNat ++ u.list.drop ((idxF (fun x : DUse => (x.key == key)) u.list) + 1).toNat).take (0 : Int).toNat ++ ([(⟨(u.list.getD (idxF (fun x : DUse => (x.key == key)) u.list).toNat default).key, (min ((u.list.getD (idxF (fun x : DUse => (x.key == key)) u.list).toNat default).count + 1) 1099511627776)⟩ : DUse)]) ++ (u.list.take (idxF (fun x : DUse => (x.key == key)) u.list).toNat ++ u.list.drop ((idxF (fun x : DUse => (x.key == key)) u.list) + 1).toNat).drop (0 : Int).toNat).length c8_8) (cs' := [Vi u.room, .slice a8_8 ((u.list.take (idxF (fun x : DUse => (x.key == key)) u.list).toNat ++ u.list.drop ((idxF (fun x : DUse => (x.key == key)) u.list) + 1).toNat).take (0 : Int).toNat ++ ([(⟨(u.list.getD (idxF (fun x : DUse => (x.key == key)) u.list).toNat default).key, (min ((u.list.getD (idxF (fun x : DUse => (x.key == key)) u.list).toNat default).count + 1) 1099511627776)⟩ : DUse)]) ++ (u.list.take (idxF (fun x : DUse => (x.key == key)) u.list).toNat ++ u.list.drop ((idxF (fun x : DUse => (x.key == key)) u.list) + 1).toNat).drop (0 : Int).toNat).length c8_8]) rfl rfl rfl sz65 rfl rfl rfl ?_
    refine o_nil ?_
    refine h_next (dp (lz (lz (lj (lj (lj (ln))))))) ?_
    refine h_done (by kernel_rfl) ?_
    refine q_kont hK9 (a8_8, c8_8, S8_8) (sr (sr (Sub.nil _))) (pk [0, 1, 2, 3, 4])
   ·refine o_buildSlice (m := 1) (T := tUse) (L := [(⟨(u.list.getD (idxF (fun x : DUse => (x.key == key)) u.list).toNat default).key, (min ((u.list.getD (idxF (fun x : DUse => (x.key == key)) u.list).toNat default).count + 1) 1099511627776)⟩ : DUse)]) (vs := [.agg #[Vi ((u.list.getD (idxF (fun x : DUse => (x.key == key)) u.list).toNat default).key), Vi (min ((u.list.getD (idxF (fun x : DUse => (x.key == key)) u.list).toNat default).count + 1) 1099511627776)]]) rfl rfl rfl rfl Tryz.underlying65 sz141 (by decide) ze141 rfl (by decide) rfl (fun S8_7 a8_7 => ?_)
    refine o_nil ?_
    refine h_next (dp (lz (lz (lz (lj (lj (lj (ln)))))))) ?_
    refine h_one (i := 5) (ls := #[T1,T1,T1,T1,T1,T1,T1,T1,F0,F0,F0,F0,F0]) (by kernel_rfl) rfl rfl ?_
    refine o_p (p_load (i := 1) (v := .slice a4 (u.list.take (idxF (fun x : DUse => (x.key == key)) u.list).toNat ++ u.list.drop ((idxF (fun x : DUse => (x.key == key)) u.list) + 1).toNat).length c5) rfl rfl sh65 rfl) ?_
    refine o_nil ?_
    refine h_next (dp (lz (lz (lz (lj (lj (lj (ln)))))))) ?_
    refine h_one (i := 8) (ls := #[T1,T1,T1,T1,T1,T1,T1,T1,T1,F0,F0,F0,F0]) (by kernel_rfl) rfl rfl ?_
    refine o_pick (H' := [own tUse S6 a4 c5 (u.list.take (idxF (fun x : DUse => (x.key == key)) u.list).toNat ++ u.list.drop ((idxF (fun x : DUse => (x.key == key)) u.list) + 1).toNat), own tUse S8_7 a8_7 ([(⟨(u.list.getD (idxF (fun x : DUse => (x.key == key)) u.list).toNat default).key, (min ((u.list.getD (idxF (fun x : DUse => (x.key == key)) u.list).toNat default).count + 1) 1099511627776)⟩ : DUse)].length) ([(⟨(u.list.getD (idxF (fun x : DUse => (x.key == key)) u.list).toNat default).key, (min ((u.list.getD (idxF (fun x : DUse => (x.key == key)) u.list).toNat default).count + 1) 1099511627776)⟩ : DUse)]), box Bu [Vi u.room, .slice a4 (u.list.take (idxF (fun x : DUse => (x.key == key)) u.list).toNat ++ u.list.drop ((idxF (fun x : DUse => (x.key == key)) u.list) + 1).toNat).length c5] 106, box B2 [Vi ((u.list.getD (idxF (fun x : DUse => (x.key == key)) u.list).toNat default).key), Vi (min ((u.list.getD (idxF (fun x : DUse => (x.key == key)) u.list).toNat default).count + 1) 1099511627776)] 141, box B1 [Vi key] 3, outer w0 [box Bu [Vi u.room, .slice au_0 u.list.length cu_0] 106, own tUse Su_0 au_0 cu_0 u.list]]) [2, 0, 1, 3, 4, 5] (by decide) rfl ?_
    refine o_callX (pre := [own tUse S6 a4 c5 (u.list.take (idxF (fun x : DUse => (x.key == key)) u.list).toNat ++ u.list.drop ((idxF (fun x : DUse => (x.key == key)) u.list) + 1).toNat), own tUse S8_7 a8_7 ([(⟨(u.list.getD (idxF (fun x : DUse => (x.key == key)) u.list).toNat default).key, (min ((u.list.getD (idxF (fun x : DUse => (x.key == key)) u.list).toNat default).count + 1) 1099511627776)⟩ : DUse)].length) ([(⟨(u.list.getD (idxF (fun x : DUse => (x.key == key)) u.list).toNat default).key, (min ((u.list.getD (idxF (fun x : DUse => (x.key == key)) u.list).toNat default).count + 1) 1099511627776)⟩ : DUse)])]) (R := [box Bu [Vi u.room, .slice a4 (u.list.take (idxF (fun x : DUse => (x.key == key)) u.list).toNat ++ u.list.drop ((idxF (fun x : DUse => (x.key == key)) u.list) + 1).toNat).length c5] 106, box B2 [Vi ((u.list.getD (idxF (fun x : DUse => (x.key == key)) u.list).toNat default).key), Vi (min ((u.list.getD (idxF (fun x : DUse => (x.key == key)) u.list).toNat default).count + 1) 1099511627776)] 141, box B1 [Vi key] 3, outer w0 [box Bu [Vi u.room, .slice au_0 u.list.length cu_0] 106, own tUse Su_0 au_0 cu_0 u.list]]) rfl (insert_Use_ok (u.list.take (idxF (fun x : DUse => (x.key == key)) u.list).toNat ++ u.list.drop ((idxF (fun x : DUse => (x.key == key)) u.list) + 1).toNat) a4 c5 S6 (0 : Int) ([(⟨(u.list.getD (idxF (fun x : DUse => (x.key == key)) u.list).toNat default).key, (min ((u.list.getD (idxF (fun x : DUse => (x.key == key)) u.list).toNat default).count + 1) 1099511627776)⟩ : DUse)]) a8_7 ([(⟨(u.list.getD (idxF (fun x : DUse => (x.key == key)) u.list).toNat default).key, (min ((u.list.getD (idxF (fun x : DUse => (x.key == key)) u.list).toNat default).count + 1) 1099511627776)⟩ : DUse)].length) S8_7 (by (try simp only [List.length_cons, List.length_nil, List.length_append, List.length_take, List.length_drop, and_true]); omega)) hf103 rfl (fun _ _ => trivial) rfl ?_
    rintro ⟨a8_8, c8_8, S8_8⟩
    refine o_asH (H' := [own tUse S8_8 a8_8 c8_8 ((u.list.take (idxF (fun x : DUse => (x.key == key)) u.list).toNat ++ u.list.drop ((idxF (fun x : DUse => (x.key == key)) u.list) + 1).toNat).take (0 : Int).toNat ++ ([(⟨(u.list.getD (idxF (fun x : DUse => (x.key == key)) u.list).toNat default).key, (min ((u.list.getD (idxF (fun x : DUse => (x.key == key)) u.list).toNat default).count + 1) 1099511627776)⟩ : DUse)]) ++ (u.list.take (idxF (fun x : DUse => (x.key == key)) u.list).toNat ++ u.list.drop ((idxF (fun x : DUse => (x.key == key)) u.list) + 1).toNat).drop (0 : Int).toNat), box Bu [Vi u.room, .slice a4 (u.list.take (idxF (fun x : DUse => (x.key == key)) u.list).toNat ++ u.list.drop ((idxF (fun x : DUse => (x.key == key)) u.list) + 1).toNat).length c5] 106, box B2 [Vi ((u.list.getD (idxF (fun x : DUse => (x.key == key)) u.list).toNat default).key), Vi (min ((u.list.getD (idxF (fun x : DUse => (x.key == key)) u.list).toNat default).count + 1) 1099511627776)] 141, box B1 [Vi key] 3, outer w0 [box Bu [Vi u.room, .slice au_0 u.list.length cu_0] 106, own tUse Su_0 au_0 cu_0 u.list]]) rfl ?_
    refine o_nil ?_
    refine h_next (dp (lz (lz (lj (lj (lj (ln))))))) ?_
    refine h_tk (i := 9) (ls := #[T1,T1,T1,T1,T1,T1,T1,T1,T1,T1,F0,F0,F0]) rfl (p_nilCheck rfl) (dp (lz (lz (lj (lj (lj (ln))))))) ?_
    refine h_tk (i := 10) (ls := #[T1,T1,T1,T1,T1,T1,T1,T1,T1,T1,T1,F0,F0]) rfl (p_fieldAddr (j' := 0) rfl fo106_0 rfl) (dp (lz (lz (lj (lj (lj (ln))))))) ?_
    refine h_tk (i := 11) (ls := #[T1,T1,T1,T1,T1,T1,T1,T1,T1,T1,T1,T1,F0]) rfl (p_fieldAddr (j' := 1) rfl fo67_1 rfl) (dp (lz (lz (lj (lj (lj (ln))))))) ?_
    refine h_one (i := 12) (ls := #[T1,T1,T1,T1,T1,T1,T1,T1,T1,T1,T1,T1,T1]) (by kernel_rfl) rfl rfl ?_
    refine o_store (i := 1) (v := .slice a8_8 ((u.list.take (idxF (fun x : DUse => (x.key == key)) u.list).toNat ++ u.list.drop ((idxF (fun x : DUse => (x.key == key)) u.list) + 1).toNat).take (0 : Int).toNat ++ ([(⟨(u.list.getD (idxF (fun x : DUse => (x.key == key)) u.list).toNat default).key, (min ((u.list.getD (idxF (fun x : DUse => (x.key == key)) u.list).toNat default).count + 1) 1099511627776)⟩ : DUse)]) ++ (u.list.take (idxF (fun x : DUse => (x.key == key)) u.list).toNat ++ u.list.drop ((idxF (fun x : DUse => (x.key == key)) u.list) + 1).toNat).drop (0 : Int).toNat).length c8_8) (cs' := [Vi u.room, .slice a8_8 ((u.list.take (idxF (fun x : DUse => (x.key == key)) u.list).toNat ++ u.list.drop ((idxF (fun x : DUse => (x.key == key)) u.list) + 1).toNat).take (0 : Int).toNat ++ ([(⟨(u.list.getD (idxF (fun x : DUse => (x.key == key)) u.list).toNat default).key, (min ((u.list.getD (idxF (fun x : DUse => (x.key == key)) u.list).toNat default).count + 1) 1099511627776)⟩ : DUse)]) ++ (u.list.take (idxF (fun x : DUse => (x.key == key)) u.list).toNat ++ u.list.drop ((idxF (fun x : DUse => (x.key == key)) u.list) + 1).toNat).drop (0 : Int).toNat).length c8_8]) rfl rfl rfl sz65 rfl rfl rfl ?_
    refine o_nil ?_
    refine h_next (dp (lz (lz (lj (lj (lj (ln))))))) ?_
    refine h_done (by kernel_rfl) ?_
    refine q_kont hK9 (a8_8, c8_8, S8_8) (sr (sr (Sub.nil _))) (pk [0, 1, 2, 3, 4])
  rintro ⟨a8_8, c8_8, S8_8⟩
  show SQ _ 62 w0 _ _ [(6, Vi (idxF (fun x : DUse => (x.key == key)) u.list)), (8, Vi (-1))] [own tUse S8_8 a8_8 c8_8 ((u.list.take (idxF (fun x : DUse => (x.key == key)) u.list).toNat ++ u.list.drop ((idxF (fun x : DUse => (x.key == key)) u.list) + 1).toNat).take (0 : Int).toNat ++ ([(⟨(u.list.getD (idxF (fun x : DUse => (x.key == key)) u.list).toNat default).key, (min ((u.list.getD (idxF (fun x : DUse => (x.key == key)) u.list).toNat default).count + 1) 1099511627776)⟩ : DUse)]) ++ (u.list.take (idxF (fun x : DUse => (x.key == key)) u.list).toNat ++ u.list.drop ((idxF (fun x : DUse => (x.key == key)) u.list) + 1).toNat).drop (0 : Int).toNat), box Bu [Vi u.room, .slice a8_8 ((u.list.take (idxF (fun x : DUse => (x.key == key)) u.list).toNat ++ u.list.drop ((idxF (fun x : DUse => (x.key == key)) u.list) + 1).toNat).take (0 : Int).toNat ++ ([(⟨(u.list.getD (idxF (fun x : DUse => (x.key == key)) u.list).toNat default).key, (min ((u.list.getD (idxF (fun x : DUse => (x.key == key)) u.list).toNat default).count + 1) 1099511627776)⟩ : DUse)]) ++ (u.list.take (idxF (fun x : DUse => (x.key == key)) u.list).toNat ++ u.list.drop ((idxF (fun x : DUse => (x.key == key)) u.list) + 1).toNat).drop (0 : Int).toNat).length c8_8] 106, box B2 [Vi ((u.list.getD (idxF (fun x : DUse => (x.key == key)) u.list).toNat default).key), Vi (min ((u.list.getD (idxF (fun x : DUse => (x.key == key)) u.list).toNat default).count + 1) 1099511627776)] 141, box B1 [Vi key] 3, outer w0 [box Bu [Vi u.room, .slice au_0 u.list.length cu_0] 106, own tUse Su_0 au_0 cu_0 u.list]]
  refine q_know (fun w hw => own_len (i := 0) (T := tUse) hw rfl) (fun hlr10 => ?_)
  refine q_then (c_seq (c_region ?_))
  refine o_mv rfl rfl ?_
  refine o_p (p_ge rfl rfl) ?_
  refine o_mv rfl rfl ?_
  refine o_as rfl rfl ?_
  refine o_as rfl rfl ?_
  refine o_nil (q_then (c_ret ?_))
  first
   | have ht := Lfu.t_hit (u := u) (key := key) (by assumption)
   | have ht := Lfu.t_full (u := u) (key := key) (by omega) (by assumption)
   | have ht := Lfu.t_add (u := u) (key := key) (by omega) (by assumption)
  have hr0 : (u.room : Int) = ((Lfu.touch u key).1).room := by
   first | (rw [ht]; done) | (rw [ht]; rfl) | (rw [ht]; exact decide_eq_true (by omega)) | (rw [ht]; exact decide_eq_false (by omega)) | (rw [ht]; exact Lfu.ins0 _ _)
  have hr1 : (((u.list.take (idxF (fun x : DUse => (x.key == key)) u.list).toNat ++ u.list.drop ((idxF (fun x : DUse => (x.key == key)) u.list) + 1).toNat).take (0 : Int).toNat ++ ([(⟨(u.list.getD (idxF (fun x : DUse => (x.key == key)) u.list).toNat default).key, (min ((u.list.getD (idxF (fun x : DUse => (x.key == key)) u.list).toNat default).count + 1) 1099511627776)⟩ : DUse)]) ++ (u.list.take (idxF (fun x : DUse => (x.key == key)) u.list).toNat ++ u.list.drop ((idxF (fun x : DUse => (x.key == key)) u.list) + 1).toNat).drop (0 : Int).toNat) : List DUse) = ((Lfu.touch u key).1).list := by
   first | (rw [ht]; done) | (rw [ht]; rfl) | (rw [ht]; exact decide_eq_true (by omega)) | (rw [ht]; exact decide_eq_false (by omega)) | (rw [ht]; exact Lfu.ins0 _ _)
  have hr2 : (decide (0 ≤ (idxF (fun x : DUse => (x.key == key)) u.list)) : Bool) = ((Lfu.touch u key).2.1) := by
   first | (rw [ht]; done) | (rw [ht]; rfl) | (rw [ht]; exact decide_eq_true (by omega)) | (rw [ht]; exact decide_eq_false (by omega)) | (rw [ht]; exact Lfu.ins0 _ _)
  have hr3 : ((-1) : Int) = ((Lfu.touch u key).2.2) := by
   first | (rw [ht]; done) | (rw [ht]; rfl) | (rw [ht]; exact decide_eq_true (by omega)) | (rw [ht]; exact decide_eq_false (by omega)) | (rw [ht]; exact Lfu.ins0 _ _)
  refine q_endX (p := (a8_8, c8_8, S8_8)) (rt2 rfl (r_tmp rfl) (r_tmp rfl)) ?_ (fun w hw => ?_)
  ·exact (by have hcc := congr (congr (congr (congrArg (fun (y0 : Int) (y1 : List DUse) (y2 : Bool) (y3 : Int) => (.tuple #[.bool y2, .int .i64 y3] : Value)) hr0) hr1) hr2) hr3; exact hcc)
  ·have h2 := hw.pick (H' := [outer w0 [box Bu [Vi u.room, .slice au_0 u.list.length cu_0] 106, own tUse Su_0 au_0 cu_0 u.list], box Bu [Vi u.room, .slice a8_8 ((u.list.take (idxF (fun x : DUse => (x.key == key)) u.list).toNat ++ u.list.drop ((idxF (fun x : DUse => (x.key == key)) u.list) + 1).toNat).take (0 : Int).toNat ++ ([(⟨(u.list.getD (idxF (fun x : DUse => (x.key == key)) u.list).toNat default).key, (min ((u.list.getD (idxF (fun x : DUse => (x.key == key)) u.list).toNat default).count + 1) 1099511627776)⟩ : DUse)]) ++ (u.list.take (idxF (fun x : DUse => (x.key == key)) u.list).toNat ++ u.list.drop ((idxF (fun x : DUse => (x.key == key)) u.list) + 1).toNat).drop (0 : Int).toNat).length c8_8] 106, own tUse S8_8 a8_8 c8_8 ((u.list.take (idxF (fun x : DUse => (x.key == key)) u.list).toNat ++ u.list.drop ((idxF (fun x : DUse => (x.key == key)) u.list) + 1).toNat).take (0 : Int).toNat ++ ([(⟨(u.list.getD (idxF (fun x : DUse => (x.key == key)) u.list).toNat default).key, (min ((u.list.getD (idxF (fun x : DUse => (x.key == key)) u.list).toNat default).count + 1) 1099511627776)⟩ : DUse)]) ++ (u.list.take (idxF (fun x : DUse => (x.key == key)) u.list).toNat ++ u.list.drop ((idxF (fun x : DUse => (x.key == key)) u.list) + 1).toNat).drop (0 : Int).toNat)]) [4, 1, 0] (by decide) rfl
   exact Eq.mp (congrArg (fun z => HeapIs w0 ((outer w0 [box Bu [Vi u.room, .slice au_0 u.list.length cu_0] 106, own tUse Su_0 au_0 cu_0 u.list]) :: z) w) ((by have hcc := congr (congr (congr (congrArg (fun (y0 : Int) (y1 : List DUse) (y2 : Bool) (y3 : Int) => ([box Bu [.int .i64 y0, .slice a8_8 y1.length c8_8] 106, own tUse S8_8 a8_8 c8_8 y1] : List Ent)) hr0) hr1) hr2) hr3; exact hcc))) h2
 ·simp only [decide_eq_false_iff_not, Int.not_le] at hc3
  have hix := idxF_lt (fun x : DUse => (x.key == key)) u.list
  refine c_seq ?_
  refine c_draw hmix (by kernel_rfl) ?_
  refine w_mv rfl rfl ?_
  refine w_p (p_nilCheck rfl) ?_
  refine w_p (p_fieldAddr (j' := 0) rfl fo106_0 rfl) ?_
  refine w_p (p_fieldAddr (j' := 1) rfl fo67_1 rfl) ?_
  refine w_p (p_load (i := 3) (v := .slice au_0 u.list.length cu_0) rfl rfl sh65 rfl) ?_
  refine w_p (p_len_slice rfl rfl Tryz.underlying65) ?_
  refine w_mv rfl rfl ?_
  refine w_p (p_nilCheck rfl) ?_
  refine w_p (p_fieldAddr (j' := 0) rfl fo106_0 rfl) ?_
  refine w_p (p_fieldAddr (j' := 0) rfl fo67_0 rfl) ?_
  refine w_p (p_load (i := 3) (v := Vi u.room) rfl rfl sh3 rfl) ?_
  refine w_p (p_eq rfl rfl) ?_
  refine w_p (p_assign rfl) ?_
  refine w_nil (q_then ?_)
  refine c_cond rfl (fun hc11 => ?_) (fun hc11 => ?_)
  ·simp only [beq_iff_eq] at hc11
   have hll := Lfu.least_lt (l := u.list) (by omega)
   refine c_region ?_
   refine o_mv rfl rfl ?_
   refine o_mv rfl rfl ?_
   refine o_call0 (v := Vi (Lfu.least u.list : Int)) rfl (fleast_ok Bu u au_0 cu_0) hf102 (fun w hw => ⟨(rd_own (i := 4) rfl) w hw, (hw.at (i := 3) rfl).here⟩) rfl ?_
   refine o_pick (H' := [box Bu [Vi u.room, .slice au_0 u.list.length cu_0] 106, own tUse Su_0 au_0 cu_0 u.list, box B2 [Vi key, Vi 0] 141, box B1 [Vi key] 3, outer w0 [box Bu [Vi u.room, .slice au_0 u.list.length cu_0] 106, own tUse Su_0 au_0 cu_0 u.list]]) [3, 4, 0, 1, 2] (by decide) rfl ?_
   refine o_callX (pre := [box Bu [Vi u.room, .slice au_0 u.list.length cu_0] 106, own tUse Su_0 au_0 cu_0 u.list]) (R := [box B2 [Vi key, Vi 0] 141, box B1 [Vi key] 3, outer w0 [box Bu [Vi u.room, .slice au_0 u.list.length cu_0] 106, own tUse Su_0 au_0 cu_0 u.list]]) rfl (ftake_ok u Bu au_0 cu_0 Su_0 (Lfu.least u.list : Int) (by omega)) hf101 rfl (fun _ _ => trivial) rfl ?_
   rintro ⟨a12, c13, S14⟩
   refine o_asH (H' := [box Bu [Vi u.room, .slice a12 (u.list.take (Lfu.least u.list : Int).toNat ++ u.list.drop ((Lfu.least u.list : Int) + 1).toNat).length c13] 106, own tUse S14 a12 c13 (u.list.take (Lfu.least u.list : Int).toNat ++ u.list.drop ((Lfu.least u.list : Int) + 1).toNat), box B2 [Vi key, Vi 0] 141, box B1 [Vi key] 3, outer w0 [box Bu [Vi u.room, .slice au_0 u.list.length cu_0] 106, own tUse Su_0 au_0 cu_0 u.list]]) rfl ?_
   refine o_p (p_field (vs := [Vi ((u.list.getD (Lfu.least u.list : Int).toNat default).key), Vi ((u.list.getD (Lfu.least u.list : Int).toNat default).count)]) (v := Vi ((u.list.getD (Lfu.least u.list : Int).toNat default).key)) rfl fc141_0 rfl) ?_
   refine o_as rfl rfl ?_
   refine o_nil ?_
   refine q_block_normal (q_then ?_)
   refine c_seq (c_region ?_)
   refine o_p (p_fieldAddr (j' := 1) rfl fo141_1 rfl) ?_
   refine o_p (p_load (i := 2) (v := Vi 0) rfl rfl sh3 rfl) ?_
   refine o_p (p_addb rfl rfl (by omega)) ?_
   refine o_p (p_min (p := (0 + 1)) (q := 1099511627776) rfl rfl) ?_
   refine o_p (p_fieldAddr (j' := 1) rfl fo141_1 rfl) ?_
   refine o_store (i := 2) (v := Vi (min (0 + 1) 1099511627776)) (cs' := [Vi key, Vi (min (0 + 1) 1099511627776)]) rfl rfl rfl sz3 rfl rfl rfl ?_
   refine o_nil (q_then (c_seq ?_))
   refine c_cut (G := Option Addr × Nat × (Nat → Prop)) (fun ⟨a16_8, c16_8, S16_8⟩ => [(6, Vi (idxF (fun x : DUse => (x.key == key)) u.list)), (8, Vi ((u.list.getD (Lfu.least u.list : Int).toNat default).key))]) (fun ⟨a16_8, c16_8, S16_8⟩ => [own tUse S16_8 a16_8 c16_8 ((u.list.take (Lfu.least u.list : Int).toNat ++ u.list.drop ((Lfu.least u.list : Int) + 1).toNat).take (0 : Int).toNat ++ ([(⟨key, (min (0 + 1) 1099511627776)⟩ : DUse)]) ++ (u.list.take (Lfu.least u.list : Int).toNat ++ u.list.drop ((Lfu.least u.list : Int) + 1).toNat).drop (0 : Int).toNat), box Bu [Vi u.room, .slice a16_8 ((u.list.take (Lfu.least u.list : Int).toNat ++ u.list.drop ((Lfu.least u.list : Int) + 1).toNat).take (0 : Int).toNat ++ ([(⟨key, (min (0 + 1) 1099511627776)⟩ : DUse)]) ++ (u.list.take (Lfu.least u.list : Int).toNat ++ u.list.drop ((Lfu.least u.list : Int) + 1).toNat).drop (0 : Int).toNat).length c16_8] 106, box B2 [Vi key, Vi (min (0 + 1) 1099511627776)] 141, box B1 [Vi key] 3, outer w0 [box Bu [Vi u.room, .slice au_0 u.list.length cu_0] 106, own tUse Su_0 au_0 cu_0 u.list]]) (fun K hK17 => ?_) ?_
   ·refine c_held hmix [box B2 [Vi key, Vi (min (0 + 1) 1099511627776)] 141, box B1 [Vi key] 3, outer w0 [box Bu [Vi u.room, .slice au_0 u.list.length cu_0] 106, own tUse Su_0 au_0 cu_0 u.list]] rfl rfl ?_
    refine h_tk (i := 0) (ls := #[T1,F0,F0,F0,F0,F0,F0,F0,F0,F0,F0,F0,F0]) rfl (p_move rfl) (dp (lz (lz (lj (lj (lj (ln))))))) ?_
    refine h_tk (i := 1) (ls := #[T1,T1,F0,F0,F0,F0,F0,F0,F0,F0,F0,F0,F0]) rfl (p_move rfl) (dp (lz (lz (lj (lj (lj (ln))))))) ?_
    refine h_tk (i := 2) (ls := #[T1,T1,T1,F0,F0,F0,F0,F0,F0,F0,F0,F0,F0]) rfl (p_nilCheck rfl) (dp (lz (lz (lj (lj (lj (ln))))))) ?_
    refine h_tk (i := 3) (ls := #[T1,T1,T1,T1,F0,F0,F0,F0,F0,F0,F0,F0,F0]) rfl (p_fieldAddr (j' := 0) rfl fo106_0 rfl) (dp (lz (lz (lj (lj (lj (ln))))))) ?_
    refine h_tk (i := 4) (ls := #[T1,T1,T1,T1,T1,F0,F0,F0,F0,F0,F0,F0,F0]) rfl (p_fieldAddr (j' := 1) rfl fo67_1 rfl) (dp (lz (lz (lj (lj (lj (ln))))))) ?_
    refine h_tk (i := 6) (ls := #[T1,T1,T1,T1,T1,F0,T1,F0,F0,F0,F0,F0,F0]) rfl (p_load_agg (i := 0) (vs := [Vi key, Vi (min (0 + 1) 1099511627776)]) rfl rfl sh141 rfl rfl) (dp (lz (lz (lj (lj (lj (ln))))))) ?_
    refine h_two (i := 5) (j := 7) (ls := #[T1,T1,T1,T1,T1,T1,T1,F0,F0,F0,F0,F0,F0]) (ls' := #[T1,T1,T1,T1,T1,F0,T1,T1,F0,F0,F0,F0,F0]) (by kernel_rfl) rfl rfl rfl rfl ?_ ?_
    ·refine o_p (p_load (i := 0) (v := .slice a12 (u.list.take (Lfu.least u.list : Int).toNat ++ u.list.drop ((Lfu.least u.list : Int) + 1).toNat).length c13) rfl rfl sh65 rfl) ?_
     refine o_nil ?_
     refine h_next (dp (lz (lz (lj (lj (lj (ln))))))) ?_
     refine h_one (i := 7) (ls := #[T1,T1,T1,T1,T1,T1,T1,T1,F0,F0,F0,F0,F0]) (by kernel_rfl) rfl rfl ?_
     refine o_buildSlice (m := 1) (T := tUse) (L := [(⟨key, (min (0 + 1) 1099511627776)⟩ : DUse)]) (vs := [.agg #[Vi key, Vi (min (0 + 1) 1099511627776)]]) rfl rfl rfl rfl Tryz.underlying65 sz141 (by decide) ze141 rfl (by decide) rfl (fun S16_7 a16_7 => ?_)
     refine o_nil ?_
     refine h_next (dp (lz (lz (lz (lj (lj (lj (ln)))))))) ?_
     refine h_one (i := 8) (ls := #[T1,T1,T1,T1,T1,T1,T1,T1,T1,F0,F0,F0,F0]) (by kernel_rfl) rfl rfl ?_
     refine o_pick (H' := [own tUse S14 a12 c13 (u.list.take (Lfu.least u.list : Int).toNat ++ u.list.drop ((Lfu.least u.list : Int) + 1).toNat), own tUse S16_7 a16_7 ([(⟨key, (min (0 + 1) 1099511627776)⟩ : DUse)].length) ([(⟨key, (min (0 + 1) 1099511627776)⟩ : DUse)]), box Bu [Vi u.room, .slice a12 (u.list.take (Lfu.least u.list : Int).toNat ++ u.list.drop ((Lfu.least u.list : Int) + 1).toNat).length c13] 106, box B2 [Vi key, Vi (min (0 + 1) 1099511627776)] 141, box B1 [Vi key] 3, outer w0 [box Bu [Vi u.room, .slice au_0 u.list.length cu_0] 106, own tUse Su_0 au_0 cu_0 u.list]]) [2, 0, 1, 3, 4, 5] (by decide) rfl ?_
     refine o_callX (pre := [own tUse S14 a12 c13 (u.list.take (Lfu.least u.list : Int).toNat ++ u.list.drop ((Lfu.least u.list : Int) + 1).toNat), own tUse S16_7 a16_7 ([(⟨key, (min (0 + 1) 1099511627776)⟩ : DUse)].length) ([(⟨key, (min (0 + 1) 1099511627776)⟩ : DUse)])]) (R := [box Bu [Vi u.room, .slice a12 (u.list.take (Lfu.least u.list : Int).toNat ++ u.list.drop ((Lfu.least u.list : Int) + 1).toNat).length c13] 106, box B2 [Vi key, Vi (min (0 + 1) 1099511627776)] 141, box B1 [Vi key] 3, outer w0 [box Bu [Vi u.room, .slice au_0 u.list.length cu_0] 106, own tUse Su_0 au_0 cu_0 u.list]]) rfl (insert_Use_ok (u.list.take (Lfu.least u.list : Int).toNat ++ u.list.drop ((Lfu.least u.list : Int) + 1).toNat) a12 c13 S14 (0 : Int) ([(⟨key, (min (0 + 1) 1099511627776)⟩ : DUse)]) a16_7 ([(⟨key, (min (0 + 1) 1099511627776)⟩ : DUse)].length) S16_7 (by (try simp only [List.length_cons, List.length_nil, List.length_append, List.length_take, List.length_drop, and_true]); omega)) hf103 rfl (fun _ _ => trivial) rfl ?_
     rintro ⟨a16_8, c16_8, S16_8⟩
     refine o_asH (H' := [own tUse S16_8 a16_8 c16_8 ((u.list.take (Lfu.least u.list : Int).toNat ++ u.list.drop ((Lfu.least u.list : Int) + 1).toNat).take (0 : Int).toNat ++ ([(⟨key, (min (0 + 1) 1099511627776)⟩ : DUse)]) ++ (u.list.take (Lfu.least u.list : Int).toNat ++ u.list.drop ((Lfu.least u.list : Int) + 1).toNat).drop (0 : Int).toNat), box Bu [Vi u.room, .slice a12 (u.list.take (Lfu.least u.list : Int).toNat ++ u.list.drop ((Lfu.least u.list : Int) + 1).toNat).length c13] 106, box B2 [Vi key, Vi (min (0 + 1) 1099511627776)] 141, box B1 [Vi key] 3, outer w0 [box Bu [Vi u.room, .slice au_0 u.list.length cu_0] 106, own tUse Su_0 au_0 cu_0 u.list]]) rfl ?_
     refine o_nil ?_
     refine h_next (dp (lz (lz (lj (lj (lj (ln))))))) ?_
     refine h_tk (i := 9) (ls := #[T1,T1,T1,T1,T1,T1,T1,T1,T1,T1,F0,F0,F0]) rfl (p_nilCheck rfl) (dp (lz (lz (lj (lj (lj (ln))))))) ?_
     refine h_tk (i := 10) (ls := #[T1,T1,T1,T1,T1,T1,T1,T1,T1,T1,T1,F0,F0]) rfl (p_fieldAddr (j' := 0) rfl fo106_0 rfl) (dp (lz (lz (lj (lj (lj (ln))))))) ?_
     refine h_tk (i := 11) (ls := #[T1,T1,T1,T1,T1,T1,T1,T1,T1,T1,T1,T1,F0]) rfl (p_fieldAddr (j' := 1) rfl fo67_1 rfl) (dp (lz (lz (lj (lj (lj (ln))))))) ?_
     refine h_one (i := 12) (ls := #[T1,T1,T1,T1,T1,T1,T1,T1,T1,T1,T1,T1,T1]) (by kernel_rfl) rfl rfl ?_
     refine o_store (i := 1) (v := .slice a16_8 ((u.list.take (Lfu.least u.list : Int).toNat ++ u.list.drop ((Lfu.least u.list : Int) + 1).toNat).take (0 : Int).toNat ++ ([(⟨key, (min (0 + 1) 1099511627776)⟩ : DUse)]) ++ (u.list.take (Lfu.least u.list : Int).toNat ++ u.list.drop ((Lfu.least u.list : Int) + 1).toNat).drop (0 : Int).toNat).length c16_8) (cs' := [Vi u.room, .slice a16_8 ((u.list.take (Lfu.least u.list : Int).toNat ++ u.list.drop ((Lfu.least u.list : Int) + 1).toNat).take (0 : Int).toNat ++ ([(⟨key, (min (0 + 1) 1099511627776)⟩ : DUse)]) ++ (u.list.take (Lfu.least u.list : Int).toNat ++ u.list.drop ((Lfu.least u.list : Int) + 1).toNat).drop (0 : Int).toNat).length c16_8]) rfl rfl rfl sz65 rfl rfl rfl ?_
     refine o_nil ?_
     refine h_next (dp (lz (lz (lj (lj (lj (ln))))))) ?_
     refine h_done (by kernel_rfl) ?_
     refine q_kont hK17 (a16_8, c16_8, S16_8) (sr (sr (Sub.nil _))) (pk [0, 1, 2, 3, 4])
    ·refine o_buildSlice (m := 1) (T := tUse) (L := [(⟨key, (min (0 + 1) 1099511627776)⟩ : DUse)]) (vs := [.agg #[Vi key, Vi (min (0 + 1) 1099511627776)]]) rfl rfl rfl rfl Tryz.underlying65 sz141 (by decide) ze141 rfl (by decide) rfl (fun S16_7 a16_7 => ?_)
     refine o_nil ?_
     refine h_next (dp (lz (lz (lz (lj (lj (lj (ln)))))))) ?_
     refine h_one (i := 5) (ls := #[T1,T1,T1,T1,T1,T1,T1,T1,F0,F0,F0,F0,F0]) (by kernel_rfl) rfl rfl ?_
     refine o_p (p_load (i := 1) (v := .slice a12 (u.list.take (Lfu.least u.list : Int).toNat ++ u.list.drop ((Lfu.least u.list : Int) + 1).toNat).length c13) rfl rfl sh65 rfl) ?_
     refine o_nil ?_
     refine h_next (dp (lz (lz (lz (lj (lj (lj (ln)))))))) ?_
     refine h_one (i := 8) (ls := #[T1,T1,T1,T1,T1,T1,T1,T1,T1,F0,F0,F0,F0]) (by kernel_rfl) rfl rfl ?_
     refine o_pick (H' := [own tUse S14 a12 c13 (u.list.take (Lfu.least u.list : Int).toNat ++ u.list.drop ((Lfu.least u.list : Int) + 1).toNat), own tUse S16_7 a16_7 ([(⟨key, (min (0 + 1) 1099511627776)⟩ : DUse)].length) ([(⟨key, (min (0 + 1) 1099511627776)⟩ : DUse)]), box Bu [Vi u.room, .slice a12 (u.list.take (Lfu.least u.list : Int).toNat ++ u.list.drop ((Lfu.least u.list : Int) + 1).toNat).length c13] 106, box B2 [Vi key, Vi (min (0 + 1) 1099511627776)] 141, box B1 [Vi key] 3, outer w0 [box Bu [Vi u.room, .slice au_0 u.list.length cu_0] 106, own tUse Su_0 au_0 cu_0 u.list]]) [2, 0, 1, 3, 4, 5] (by decide) rfl ?_
     refine o_callX (pre := [own tUse S14 a12 c13 (u.list.take (Lfu.least u.list : Int).toNat ++ u.list.drop ((Lfu.least u.list : Int) + 1).toNat), own tUse S16_7 a16_7 ([(⟨key, (min (0 + 1) 1099511627776)⟩ : DUse)].length) ([(⟨key, (min (0 + 1) 1099511627776)⟩ : DUse)])]) (R := [box Bu [Vi u.room, .slice a12 (u.list.take (Lfu.least u.list : Int).toNat ++ u.list.drop ((Lfu.least u.list : Int) + 1).toNat).length c13] 106, box B2 [Vi key, Vi (min (0 + 1) 1099511627776)] 141, box B1 [Vi key] 3, outer w0 [box Bu [Vi u.room, .slice au_0 u.list.length cu_0] 106, own tUse Su_0 au_0 cu_0 u.list]]) rfl (insert_Use_ok (u.list.take (Lfu.least u.list : Int).toNat ++ u.list.drop ((Lfu.least u.list : Int) + 1).toNat) a12 c13 S14 (0 : Int) ([(⟨key, (min (0 + 1) 1099511627776)⟩ : DUse)]) a16_7 ([(⟨key, (min (0 + 1) 1099511627776)⟩ : DUse)].length) S16_7 (by (try simp only [List.length_cons, List.length_nil, List.length_append, List.length_take, List.length_drop, and_true]); omega)) hf103 rfl (fun _ _ => trivial) rfl ?_
     rintro ⟨a16_8, c16_8, S16_8⟩
     refine o_asH (H' := [own tUse S16_8 a16_8 c16_8 ((u.list.take (Lfu.least u.list : Int).toNat ++ u.list.drop ((Lfu.least u.list : Int) + 1).toNat).take (0 : Int).toNat ++ ([(⟨key, (min (0 + 1) 1099511627776)⟩ : DUse)]) ++ (u.list.take (Lfu.least u.list : Int).toNat ++ u.list.drop ((Lfu.least u.list : Int) + 1).toNat).drop (0 : Int).toNat), box Bu [Vi u.room, .slice a12 (u.list.take (Lfu.least u.list : Int).toNat ++ u.list.drop ((Lfu.least u.list : Int) + 1).toNat).length c13] 106, box B2 [Vi key, Vi (min (0 + 1) 1099511627776)] 141, box B1 [Vi key] 3, outer w0 [box Bu [Vi u.room, .slice au_0 u.list.length cu_0] 106, own tUse Su_0 au_0 cu_0 u.list]]) rfl ?_
     refine o_nil ?_
     refine h_next (dp (lz (lz (lj (lj (lj (ln))))))) ?_
     refine h_tk (i := 9) (ls := #[T1,T1,T1,T1,T1,T1,T1,T1,T1,T1,F0,F0,F0]) rfl (p_nilCheck rfl) (dp (lz (lz (lj (lj (lj (ln))))))) ?_
     refine h_tk (i := 10) (ls := #[T1,T1,T1,T1,T1,T1,T1,T1,T1,T1,T1,F0,F0]) rfl (p_fieldAddr (j' := 0) rfl fo106_0 rfl) (dp (lz (lz (lj (lj (lj (ln))))))) ?_
     refine h_tk (i := 11) (ls := #[T1,T1,T1,T1,T1,T1,T1,T1,T1,T1,T1,T1,F0]) rfl (p_fieldAddr (j' := 1) rfl fo67_1 rfl) (dp (lz (lz (lj (lj (lj (ln))))))) ?_
     refine h_one (i := 12) (ls := #[T1,T1,T1,T1,T1,T1,T1,T1,T1,T1,T1,T1,T1]) (by kernel_rfl) rfl rfl ?_
     refine o_store (i := 1) (v := .slice a16_8 ((u.list.take (Lfu.least u.list : Int).toNat ++ u.list.drop ((Lfu.least u.list : Int) + 1).toNat).take (0 : Int).toNat ++ ([(⟨key, (min (0 + 1) 1099511627776)⟩ : DUse)]) ++ (u.list.take (Lfu.least u.list : Int).toNat ++ u.list.drop ((Lfu.least u.list : Int) + 1).toNat).drop (0 : Int).toNat).length c16_8) (cs' := [Vi u.room, .slice a16_8 ((u.list.take (Lfu.least u.list : Int).toNat ++ u.list.drop ((Lfu.least u.list : Int) + 1).toNat).take (0 : Int).toNat ++ ([(⟨key, (min (0 + 1) 1099511627776)⟩ : DUse)]) ++ (u.list.take (Lfu.least u.list : Int).toNat ++ u.list.drop ((Lfu.least u.list : Int) + 1).toNat).drop (0 : Int).toNat).length c16_8]) rfl rfl rfl sz65 rfl rfl rfl ?_
     refine o_nil ?_
     refine h_next (dp (lz (lz (lj (lj (lj (ln))))))) ?_
     refine h_done (by kernel_rfl) ?_
     refine q_kont hK17 (a16_8, c16_8, S16_8) (sr (sr (Sub.nil _))) (pk [0, 1, 2, 3, 4])
   rintro ⟨a16_8, c16_8, S16_8⟩
   show SQ _ 62 w0 _ _ [(6, Vi (idxF (fun x : DUse => (x.key == key)) u.list)), (8, Vi ((u.list.getD (Lfu.least u.list : Int).toNat default).key))] [own tUse S16_8 a16_8 c16_8 ((u.list.take (Lfu.least u.list : Int).toNat ++ u.list.drop ((Lfu.least u.list : Int) + 1).toNat).take (0 : Int).toNat ++ ([(⟨key, (min (0 + 1) 1099511627776)⟩ : DUse)]) ++ (u.list.take (Lfu.least u.list : Int).toNat ++ u.list.drop ((Lfu.least u.list : Int) + 1).toNat).drop (0 : Int).toNat), box Bu [Vi u.room, .slice a16_8 ((u.list.take (Lfu.least u.list : Int).toNat ++ u.list.drop ((Lfu.least u.list : Int) + 1).toNat).take (0 : Int).toNat ++ ([(⟨key, (min (0 + 1) 1099511627776)⟩ : DUse)]) ++ (u.list.take (Lfu.least u.list : Int).toNat ++ u.list.drop ((Lfu.least u.list : Int) + 1).toNat).drop (0 : Int).toNat).length c16_8] 106, box B2 [Vi key, Vi (min (0 + 1) 1099511627776)] 141, box B1 [Vi key] 3, outer w0 [box Bu [Vi u.room, .slice au_0 u.list.length cu_0] 106, own tUse Su_0 au_0 cu_0 u.list]]
   refine q_know (fun w hw => own_len (i := 0) (T := tUse) hw rfl) (fun hlr18 => ?_)
   refine q_then (c_seq (c_region ?_))
   refine o_mv rfl rfl ?_
   refine o_p (p_ge rfl rfl) ?_
   refine o_mv rfl rfl ?_
   refine o_as rfl rfl ?_
   refine o_as rfl rfl ?_
   refine o_nil (q_then (c_ret ?_))
   first
    | have ht := Lfu.t_hit (u := u) (key := key) (by assumption)
    | have ht := Lfu.t_full (u := u) (key := key) (by omega) (by assumption)
    | have ht := Lfu.t_add (u := u) (key := key) (by omega) (by assumption)
   have hr0 : (u.room : Int) = ((Lfu.touch u key).1).room := by
    first | (rw [ht]; done) | (rw [ht]; rfl) | (rw [ht]; exact decide_eq_true (by omega)) | (rw [ht]; exact decide_eq_false (by omega)) | (rw [ht]; exact Lfu.ins0 _ _)
   have hr1 : (((u.list.take (Lfu.least u.list : Int).toNat ++ u.list.drop ((Lfu.least u.list : Int) + 1).toNat).take (0 : Int).toNat ++ ([(⟨key, (min (0 + 1) 1099511627776)⟩ : DUse)]) ++ (u.list.take (Lfu.least u.list : Int).toNat ++ u.list.drop ((Lfu.least u.list : Int) + 1).toNat).drop (0 : Int).toNat) : List DUse) = ((Lfu.touch u key).1).list := by
    first | (rw [ht]; done) | (rw [ht]; rfl) | (rw [ht]; exact decide_eq_true (by omega)) | (rw [ht]; exact decide_eq_false (by omega)) | (rw [ht]; exact Lfu.ins0 _ _)
   have hr2 : (decide (0 ≤ (idxF (fun x : DUse => (x.key == key)) u.list)) : Bool) = ((Lfu.touch u key).2.1) := by
    first | (rw [ht]; done) | (rw [ht]; rfl) | (rw [ht]; exact decide_eq_true (by omega)) | (rw [ht]; exact decide_eq_false (by omega)) | (rw [ht]; exact Lfu.ins0 _ _)
   have hr3 : ((u.list.getD (Lfu.least u.list : Int).toNat default).key : Int) = ((Lfu.touch u key).2.2) := by
    first | (rw [ht]; done) | (rw [ht]; rfl) | (rw [ht]; exact decide_eq_true (by omega)) | (rw [ht]; exact decide_eq_false (by omega)) | (rw [ht]; exact Lfu.ins0 _ _)
   refine q_endX (p := (a16_8, c16_8, S16_8)) (rt2 rfl (r_tmp rfl) (r_tmp rfl)) ?_ (fun w hw => ?_)
   ·exact (by have hcc := congr (congr (congr (congrArg (fun (y0 : Int) (y1 : List DUse) (y2 : Bool) (y3 : Int) => (.tuple #[.bool y2, .int .i64 y3] : Value)) hr0) hr1) hr2) hr3; exact hcc)
   ·have h2 := hw.pick (H' := [outer w0 [box Bu [Vi u.room, .slice au_0 u.list.length cu_0] 106, own tUse Su_0 au_0 cu_0 u.list], box Bu [Vi u.room, .slice a16_8 ((u.list.take (Lfu.least u.list : Int).toNat ++ u.list.drop ((Lfu.least u.list : Int) + 1).toNat).take (0 : Int).toNat ++ ([(⟨key, (min (0 + 1) 1099511627776)⟩ : DUse)]) ++ (u.list.take (Lfu.least u.list : Int).toNat ++ u.list.drop ((Lfu.least u.list : Int) + 1).toNat).drop (0 : Int).toNat).length c16_8] 106, own tUse S16_8 a16_8 c16_8 ((u.list.take (Lfu.least u.list : Int).toNat ++ u.list.drop ((Lfu.least u.list : Int) + 1).toNat).take (0 : Int).toNat ++ ([(⟨key, (min (0 + 1) 1099511627776)⟩ : DUse)]) ++ (u.list.take (Lfu.least u.list : Int).toNat ++ u.list.drop ((Lfu.least u.list : Int) + 1).toNat).drop (0 : Int).toNat)]) [4, 1, 0] (by decide) rfl
    exact Eq.mp (congrArg (fun z => HeapIs w0 ((outer w0 [box Bu [Vi u.room, .slice au_0 u.list.length cu_0] 106, own tUse Su_0 au_0 cu_0 u.list]) :: z) w) ((by have hcc := congr (congr (congr (congrArg (fun (y0 : Int) (y1 : List DUse) (y2 : Bool) (y3 : Int) => ([box Bu [.int .i64 y0, .slice a16_8 y1.length c16_8] 106, own tUse S16_8 a16_8 c16_8 y1] : List Ent)) hr0) hr1) hr2) hr3; exact hcc))) h2
  ·simp only [beq_eq_false_iff_ne, ne_eq] at hc11
   refine c_skip ?_
   refine q_block_normal (q_then ?_)
   refine c_seq (c_region ?_)
   refine o_p (p_fieldAddr (j' := 1) rfl fo141_1 rfl) ?_
   refine o_p (p_load (i := 0) (v := Vi 0) rfl rfl sh3 rfl) ?_
   refine o_p (p_addb rfl rfl (by omega)) ?_
   refine o_p (p_min (p := (0 + 1)) (q := 1099511627776) rfl rfl) ?_
   refine o_p (p_fieldAddr (j' := 1) rfl fo141_1 rfl) ?_
   refine o_store (i := 0) (v := Vi (min (0 + 1) 1099511627776)) (cs' := [Vi key, Vi (min (0 + 1) 1099511627776)]) rfl rfl rfl sz3 rfl rfl rfl ?_
   refine o_nil (q_then (c_seq ?_))
   refine c_cut (G := Option Addr × Nat × (Nat → Prop)) (fun ⟨a19_8, c19_8, S19_8⟩ => [(6, Vi (idxF (fun x : DUse => (x.key == key)) u.list)), (8, Vi (-1))]) (fun ⟨a19_8, c19_8, S19_8⟩ => [own tUse S19_8 a19_8 c19_8 (u.list.take (0 : Int).toNat ++ ([(⟨key, (min (0 + 1) 1099511627776)⟩ : DUse)]) ++ u.list.drop (0 : Int).toNat), box B2 [Vi key, Vi (min (0 + 1) 1099511627776)] 141, box B1 [Vi key] 3, outer w0 [box Bu [Vi u.room, .slice au_0 u.list.length cu_0] 106, own tUse Su_0 au_0 cu_0 u.list], box Bu [Vi u.room, .slice a19_8 (u.list.take (0 : Int).toNat ++ ([(⟨key, (min (0 + 1) 1099511627776)⟩ : DUse)]) ++ u.list.drop (0 : Int).toNat).length c19_8] 106]) (fun K hK20 => ?_) ?_
   ·refine c_held hmix [box B2 [Vi key, Vi (min (0 + 1) 1099511627776)] 141, box B1 [Vi key] 3, outer w0 [box Bu [Vi u.room, .slice au_0 u.list.length cu_0] 106, own tUse Su_0 au_0 cu_0 u.list]] rfl rfl ?_
    refine h_tk (i := 0) (ls := #[T1,F0,F0,F0,F0,F0,F0,F0,F0,F0,F0,F0,F0]) rfl (p_move rfl) (dp (lj (lj (lj (lz (lz (ln))))))) ?_
    refine h_tk (i := 1) (ls := #[T1,T1,F0,F0,F0,F0,F0,F0,F0,F0,F0,F0,F0]) rfl (p_move rfl) (dp (lj (lj (lj (lz (lz (ln))))))) ?_
    refine h_tk (i := 2) (ls := #[T1,T1,T1,F0,F0,F0,F0,F0,F0,F0,F0,F0,F0]) rfl (p_nilCheck rfl) (dp (lj (lj (lj (lz (lz (ln))))))) ?_
    refine h_tk (i := 3) (ls := #[T1,T1,T1,T1,F0,F0,F0,F0,F0,F0,F0,F0,F0]) rfl (p_fieldAddr (j' := 0) rfl fo106_0 rfl) (dp (lj (lj (lj (lz (lz (ln))))))) ?_
    refine h_tk (i := 4) (ls := #[T1,T1,T1,T1,T1,F0,F0,F0,F0,F0,F0,F0,F0]) rfl (p_fieldAddr (j' := 1) rfl fo67_1 rfl) (dp (lj (lj (lj (lz (lz (ln))))))) ?_
    refine h_tk (i := 6) (ls := #[T1,T1,T1,T1,T1,F0,T1,F0,F0,F0,F0,F0,F0]) rfl (p_load_agg (i := 0) (vs := [Vi key, Vi (min (0 + 1) 1099511627776)]) rfl rfl sh141 rfl rfl) (dp (lj (lj (lj (lz (lz (ln))))))) ?_
    refine h_two (i := 5) (j := 7) (ls := #[T1,T1,T1,T1,T1,T1,T1,F0,F0,F0,F0,F0,F0]) (ls' := #[T1,T1,T1,T1,T1,F0,T1,T1,F0,F0,F0,F0,F0]) (by kernel_rfl) rfl rfl rfl rfl ?_ ?_
    ·refine o_p (p_load (i := 3) (v := .slice au_0 u.list.length cu_0) rfl rfl sh65 rfl) ?_
     refine o_nil ?_
     refine h_next (dp (lj (lj (lj (lz (lz (ln))))))) ?_
     refine h_one (i := 7) (ls := #[T1,T1,T1,T1,T1,T1,T1,T1,F0,F0,F0,F0,F0]) (by kernel_rfl) rfl rfl ?_
     refine o_buildSlice (m := 1) (T := tUse) (L := [(⟨key, (min (0 + 1) 1099511627776)⟩ : DUse)]) (vs := [.agg #[Vi key, Vi (min (0 + 1) 1099511627776)]]) rfl rfl rfl rfl Tryz.underlying65 sz141 (by decide) ze141 rfl (by decide) rfl (fun S19_7 a19_7 => ?_)
     refine o_nil ?_
     refine h_next (dp (lz (lj (lj (lj (lz (lz (ln)))))))) ?_
     refine h_one (i := 8) (ls := #[T1,T1,T1,T1,T1,T1,T1,T1,T1,F0,F0,F0,F0]) (by kernel_rfl) rfl rfl ?_
     refine o_pick (H' := [own tUse Su_0 au_0 cu_0 u.list, own tUse S19_7 a19_7 ([(⟨key, (min (0 + 1) 1099511627776)⟩ : DUse)].length) ([(⟨key, (min (0 + 1) 1099511627776)⟩ : DUse)]), box B2 [Vi key, Vi (min (0 + 1) 1099511627776)] 141, box B1 [Vi key] 3, outer w0 [box Bu [Vi u.room, .slice au_0 u.list.length cu_0] 106, own tUse Su_0 au_0 cu_0 u.list], box Bu [Vi u.room, .slice au_0 u.list.length cu_0] 106]) [5, 0, 1, 2, 3, 4] (by decide) rfl ?_
     refine o_callX (pre := [own tUse Su_0 au_0 cu_0 u.list, own tUse S19_7 a19_7 ([(⟨key, (min (0 + 1) 1099511627776)⟩ : DUse)].length) ([(⟨key, (min (0 + 1) 1099511627776)⟩ : DUse)])]) (R := [box B2 [Vi key, Vi (min (0 + 1) 1099511627776)] 141, box B1 [Vi key] 3, outer w0 [box Bu [Vi u.room, .slice au_0 u.list.length cu_0] 106, own tUse Su_0 au_0 cu_0 u.list], box Bu [Vi u.room, .slice au_0 u.list.length cu_0] 106]) rfl (insert_Use_ok u.list au_0 cu_0 Su_0 (0 : Int) ([(⟨key, (min (0 + 1) 1099511627776)⟩ : DUse)]) a19_7 ([(⟨key, (min (0 + 1) 1099511627776)⟩ : DUse)].length) S19_7 (by (try simp only [List.length_cons, List.length_nil, List.length_append, List.length_take, List.length_drop, and_true]); omega)) hf103 rfl (fun _ _ => trivial) rfl ?_
     rintro ⟨a19_8, c19_8, S19_8⟩
     refine o_asH (H' := [own tUse S19_8 a19_8 c19_8 (u.list.take (0 : Int).toNat ++ ([(⟨key, (min (0 + 1) 1099511627776)⟩ : DUse)]) ++ u.list.drop (0 : Int).toNat), box B2 [Vi key, Vi (min (0 + 1) 1099511627776)] 141, box B1 [Vi key] 3, outer w0 [box Bu [Vi u.room, .slice au_0 u.list.length cu_0] 106, own tUse Su_0 au_0 cu_0 u.list], box Bu [Vi u.room, .slice au_0 u.list.length cu_0] 106]) rfl ?_
     refine o_nil ?_
     refine h_next (dp (lz (lj (lj (lj (lz (ln))))))) ?_
     refine h_tk (i := 9) (ls := #[T1,T1,T1,T1,T1,T1,T1,T1,T1,T1,F0,F0,F0]) rfl (p_nilCheck rfl) (dp (lz (lj (lj (lj (lz (ln))))))) ?_
     refine h_tk (i := 10) (ls := #[T1,T1,T1,T1,T1,T1,T1,T1,T1,T1,T1,F0,F0]) rfl (p_fieldAddr (j' := 0) rfl fo106_0 rfl) (dp (lz (lj (lj (lj (lz (ln))))))) ?_
     refine h_tk (i := 11) (ls := #[T1,T1,T1,T1,T1,T1,T1,T1,T1,T1,T1,T1,F0]) rfl (p_fieldAddr (j' := 1) rfl fo67_1 rfl) (dp (lz (lj (lj (lj (lz (ln))))))) ?_
     refine h_one (i := 12) (ls := #[T1,T1,T1,T1,T1,T1,T1,T1,T1,T1,T1,T1,T1]) (by kernel_rfl) rfl rfl ?_
     refine o_store (i := 4) (v := .slice a19_8 (u.list.take (0 : Int).toNat ++ ([(⟨key, (min (0 + 1) 1099511627776)⟩ : DUse)]) ++ u.list.drop (0 : Int).toNat).length c19_8) (cs' := [Vi u.room, .slice a19_8 (u.list.take (0 : Int).toNat ++ ([(⟨key, (min (0 + 1) 1099511627776)⟩ : DUse)]) ++ u.list.drop (0 : Int).toNat).length c19_8]) rfl rfl rfl sz65 rfl rfl rfl ?_
     refine o_nil ?_
     refine h_next (dp (lz (lj (lj (lj (lz (ln))))))) ?_
     refine h_done (by kernel_rfl) ?_
     refine q_kont hK20 (a19_8, c19_8, S19_8) (sr (sr (Sub.nil _))) (pk [0, 1, 2, 3, 4])
    ·refine o_buildSlice (m := 1) (T := tUse) (L := [(⟨key, (min (0 + 1) 1099511627776)⟩ : DUse)]) (vs := [.agg #[Vi key, Vi (min (0 + 1) 1099511627776)]]) rfl rfl rfl rfl Tryz.underlying65 sz141 (by decide) ze141 rfl (by decide) rfl (fun S19_7 a19_7 => ?_)
     refine o_nil ?_
     refine h_next (dp (lz (lj (lj (lj (lz (lz (ln)))))))) ?_
     refine h_one (i := 5) (ls := #[T1,T1,T1,T1,T1,T1,T1,T1,F0,F0,F0,F0,F0]) (by kernel_rfl) rfl rfl ?_
     refine o_p (p_load (i := 4) (v := .slice au_0 u.list.length cu_0) rfl rfl sh65 rfl) ?_
     refine o_nil ?_
     refine h_next (dp (lz (lj (lj (lj (lz (lz (ln)))))))) ?_
     refine h_one (i := 8) (ls := #[T1,T1,T1,T1,T1,T1,T1,T1,T1,F0,F0,F0,F0]) (by kernel_rfl) rfl rfl ?_
     refine o_pick (H' := [own tUse Su_0 au_0 cu_0 u.list, own tUse S19_7 a19_7 ([(⟨key, (min (0 + 1) 1099511627776)⟩ : DUse)].length) ([(⟨key, (min (0 + 1) 1099511627776)⟩ : DUse)]), box B2 [Vi key, Vi (min (0 + 1) 1099511627776)] 141, box B1 [Vi key] 3, outer w0 [box Bu [Vi u.room, .slice au_0 u.list.length cu_0] 106, own tUse Su_0 au_0 cu_0 u.list], box Bu [Vi u.room, .slice au_0 u.list.length cu_0] 106]) [5, 0, 1, 2, 3, 4] (by decide) rfl ?_
     refine o_callX (pre := [own tUse Su_0 au_0 cu_0 u.list, own tUse S19_7 a19_7 ([(⟨key, (min (0 + 1) 1099511627776)⟩ : DUse)].length) ([(⟨key, (min (0 + 1) 1099511627776)⟩ : DUse)])]) (R := [box B2 [Vi key, Vi (min (0 + 1) 1099511627776)] 141, box B1 [Vi key] 3, outer w0 [box Bu [Vi u.room, .slice au_0 u.list.length cu_0] 106, own tUse Su_0 au_0 cu_0 u.list], box Bu [Vi u.room, .slice au_0 u.list.length cu_0] 106]) rfl (insert_Use_ok u.list au_0 cu_0 Su_0 (0 : Int) ([(⟨key, (min (0 + 1) 1099511627776)⟩ : DUse)]) a19_7 ([(⟨key, (min (0 + 1) 1099511627776)⟩ : DUse)].length) S19_7 (by (try simp only [List.length_cons, List.length_nil, List.length_append, List.length_take, List.length_drop, and_true]); omega)) hf103 rfl (fun _ _ => trivial) rfl ?_
     rintro ⟨a19_8, c19_8, S19_8⟩
     refine o_asH (H' := [own tUse S19_8 a19_8 c19_8 (u.list.take (0 : Int).toNat ++ ([(⟨key, (min (0 + 1) 1099511627776)⟩ : DUse)]) ++ u.list.drop (0 : Int).toNat), box B2 [Vi key, Vi (min (0 + 1) 1099511627776)] 141, box B1 [Vi key] 3, outer w0 [box Bu [Vi u.room, .slice au_0 u.list.length cu_0] 106, own tUse Su_0 au_0 cu_0 u.list], box Bu [Vi u.room, .slice au_0 u.list.length cu_0] 106]) rfl ?_
     refine o_nil ?_
     refine h_next (dp (lz (lj (lj (lj (lz (ln))))))) ?_
     refine h_tk (i := 9) (ls := #[T1,T1,T1,T1,T1,T1,T1,T1,T1,T1,F0,F0,F0]) rfl (p_nilCheck rfl) (dp (lz (lj (lj (lj (lz (ln))))))) ?_
     refine h_tk (i := 10) (ls := #[T1,T1,T1,T1,T1,T1,T1,T1,T1,T1,T1,F0,F0]) rfl (p_fieldAddr (j' := 0) rfl fo106_0 rfl) (dp (lz (lj (lj (lj (lz (ln))))))) ?_
     refine h_tk (i := 11) (ls := #[T1,T1,T1,T1,T1,T1,T1,T1,T1,T1,T1,T1,F0]) rfl (p_fieldAddr (j' := 1) rfl fo67_1 rfl) (dp (lz (lj (lj (lj (lz (ln))))))) ?_
     refine h_one (i := 12) (ls := #[T1,T1,T1,T1,T1,T1,T1,T1,T1,T1,T1,T1,T1]) (by kernel_rfl) rfl rfl ?_
     refine o_store (i := 4) (v := .slice a19_8 (u.list.take (0 : Int).toNat ++ ([(⟨key, (min (0 + 1) 1099511627776)⟩ : DUse)]) ++ u.list.drop (0 : Int).toNat).length c19_8) (cs' := [Vi u.room, .slice a19_8 (u.list.take (0 : Int).toNat ++ ([(⟨key, (min (0 + 1) 1099511627776)⟩ : DUse)]) ++ u.list.drop (0 : Int).toNat).length c19_8]) rfl rfl rfl sz65 rfl rfl rfl ?_
     refine o_nil ?_
     refine h_next (dp (lz (lj (lj (lj (lz (ln))))))) ?_
     refine h_done (by kernel_rfl) ?_
     refine q_kont hK20 (a19_8, c19_8, S19_8) (sr (sr (Sub.nil _))) (pk [0, 1, 2, 3, 4])
   rintro ⟨a19_8, c19_8, S19_8⟩
   show SQ _ 62 w0 _ _ [(6, Vi (idxF (fun x : DUse => (x.key == key)) u.list)), (8, Vi (-1))] [own tUse S19_8 a19_8 c19_8 (u.list.take (0 : Int).toNat ++ ([(⟨key, (min (0 + 1) 1099511627776)⟩ : DUse)]) ++ u.list.drop (0 : Int).toNat), box B2 [Vi key, Vi (min (0 + 1) 1099511627776)] 141, box B1 [Vi key] 3, outer w0 [box Bu [Vi u.room, .slice au_0 u.list.length cu_0] 106, own tUse Su_0 au_0 cu_0 u.list], box Bu [Vi u.room, .slice a19_8 (u.list.take (0 : Int).toNat ++ ([(⟨key, (min (0 + 1) 1099511627776)⟩ : DUse)]) ++ u.list.drop (0 : Int).toNat).length c19_8] 106]
   refine q_know (fun w hw => own_len (i := 0) (T := tUse) hw rfl) (fun hlr21 => ?_)
   refine q_then (c_seq (c_region ?_))
   refine o_mv rfl rfl ?_
   refine o_p (p_ge rfl rfl) ?_
   refine o_mv rfl rfl ?_
   refine o_as rfl rfl ?_
   refine o_as rfl rfl ?_
   refine o_nil (q_then (c_ret ?_))
   first
    | have ht := Lfu.t_hit (u := u) (key := key) (by assumption)
    | have ht := Lfu.t_full (u := u) (key := key) (by omega) (by assumption)
    | have ht := Lfu.t_add (u := u) (key := key) (by omega) (by assumption)
   have hr0 : (u.room : Int) = ((Lfu.touch u key).1).room := by
    first | (rw [ht]; done) | (rw [ht]; rfl) | (rw [ht]; exact decide_eq_true (by omega)) | (rw [ht]; exact decide_eq_false (by omega)) | (rw [ht]; exact Lfu.ins0 _ _)
   have hr1 : ((u.list.take (0 : Int).toNat ++ ([(⟨key, (min (0 + 1) 1099511627776)⟩ : DUse)]) ++ u.list.drop (0 : Int).toNat) : List DUse) = ((Lfu.touch u key).1).list := by
    first | (rw [ht]; done) | (rw [ht]; rfl) | (rw [ht]; exact decide_eq_true (by omega)) | (rw [ht]; exact decide_eq_false (by omega)) | (rw [ht]; exact Lfu.ins0 _ _)
   have hr2 : (decide (0 ≤ (idxF (fun x : DUse => (x.key == key)) u.list)) : Bool) = ((Lfu.touch u key).2.1) := by
    first | (rw [ht]; done) | (rw [ht]; rfl) | (rw [ht]; exact decide_eq_true (by omega)) | (rw [ht]; exact decide_eq_false (by omega)) | (rw [ht]; exact Lfu.ins0 _ _)
   have hr3 : ((-1) : Int) = ((Lfu.touch u key).2.2) := by
    first | (rw [ht]; done) | (rw [ht]; rfl) | (rw [ht]; exact decide_eq_true (by omega)) | (rw [ht]; exact decide_eq_false (by omega)) | (rw [ht]; exact Lfu.ins0 _ _)
   refine q_endX (p := (a19_8, c19_8, S19_8)) (rt2 rfl (r_tmp rfl) (r_tmp rfl)) ?_ (fun w hw => ?_)
   ·exact (by have hcc := congr (congr (congr (congrArg (fun (y0 : Int) (y1 : List DUse) (y2 : Bool) (y3 : Int) => (.tuple #[.bool y2, .int .i64 y3] : Value)) hr0) hr1) hr2) hr3; exact hcc)
   ·have h2 := hw.pick (H' := [outer w0 [box Bu [Vi u.room, .slice au_0 u.list.length cu_0] 106, own tUse Su_0 au_0 cu_0 u.list], box Bu [Vi u.room, .slice a19_8 (u.list.take (0 : Int).toNat ++ ([(⟨key, (min (0 + 1) 1099511627776)⟩ : DUse)]) ++ u.list.drop (0 : Int).toNat).length c19_8] 106, own tUse S19_8 a19_8 c19_8 (u.list.take (0 : Int).toNat ++ ([(⟨key, (min (0 + 1) 1099511627776)⟩ : DUse)]) ++ u.list.drop (0 : Int).toNat)]) [3, 4, 0] (by decide) rfl
    exact Eq.mp (congrArg (fun z => HeapIs w0 ((outer w0 [box Bu [Vi u.room, .slice au_0 u.list.length cu_0] 106, own tUse Su_0 au_0 cu_0 u.list]) :: z) w) ((by have hcc := congr (congr (congr (congrArg (fun (y0 : Int) (y1 : List DUse) (y2 : Bool) (y3 : Int) => ([box Bu [.int .i64 y0, .slice a19_8 y1.length c19_8] 106, own tUse S19_8 a19_8 c19_8 y1] : List Ent)) hr0) hr1) hr2) hr3; exact hcc))) h2

set_option maxHeartbeats 8000000 in
set_option maxRecDepth 100000 in
theorem frun_ok (u : DUses) (au_0 : Option Addr) (cu_0 : Nat) (l : List Int) (al : Option Addr) (cl : Nat) : FnM Tryz.prog 31 [.agg #[Vi u.room, .slice au_0 u.list.length cu_0], .slice al l.length cl] (fun w => Rd tUse w au_0 cu_0 u.list ∧ Rd tInt w al cl l) (Option Addr × Nat) (fun p => .tuple #[.agg #[Vi (((Lfu.run u l).1).room), .slice p.1 (((Lfu.run u l).1).list).length p.2], Vi ((Lfu.run u l).2), Vi (Lfu.runErr u l)]) (fun p S w => SlO tUse S w p.1 p.2 (((Lfu.run u l).1).list)) := by
 refine fnM (nt := 47) (F0 := [(0, .agg #[Vi u.room, .slice au_0 u.list.length cu_0]), (1, .slice al l.length cl)]) Tryz.func31 rfl Tryz.ntmps31 rfl rfl (fun w0 hpre => ?_)
 obtain ⟨hu_0, hl⟩ := hpre
 have hlhu_0 := hu_0.2.1
 have hlhl := hl.2.1
 refine c_seq (c_region ?_)
 refine o_box (v := .agg #[Vi u.room, .slice au_0 u.list.length cu_0]) rfl rfl (fun B1 => ?_)
 refine o_alloc ze67 rfl (fun B2 => ?_)
 refine o_as rfl rfl ?_
 refine o_as rfl rfl ?_
 refine o_nil (q_then (c_seq (c_region ?_)))
 refine o_p (p_load_agg (i := 1) (vs := [Vi u.room, .slice au_0 u.list.length cu_0]) rfl rfl sh67 rfl rfl) ?_
 refine o_call0 (v := Vi (Lfu.check u)) rfl (fcheck_ok u au_0 cu_0) hf60 (fun w hw => (rd_base (i := 2) rfl hu_0) w hw) rfl ?_
 refine o_as rfl rfl ?_
 refine o_nil (q_then (c_seq (c_seq (c_region ?_))))
 refine o_mv rfl rfl ?_
 refine o_p (p_eq rfl rfl) ?_
 refine o_nil (q_then ?_)
 refine c_cond rfl (fun hc3 => ?_) (fun hc3 => ?_)
 ·simp only [beq_iff_eq] at hc3
  have hok := Lfu.ok_of hc3
  have hroom := hok.room
  have hlen := hok.len
  refine c_region ?_
  refine o_mv rfl rfl ?_
  refine o_call0 (v := Vi (Lru.trace l)) rfl (checkTrace_ok l al cl) hf17 (fun w hw => (rd_base (i := 2) rfl hl) w hw) rfl ?_
  refine o_as rfl rfl ?_
  refine o_nil (q_then (c_seq (c_seq (c_region ?_))))
  refine o_mv rfl rfl ?_
  refine o_p (p_ne rfl rfl) ?_
  refine o_nil (q_then ?_)
  refine c_cond rfl (fun hc4 => ?_) (fun hc4 => ?_)
  ·simp only [bne_iff_ne, ne_eq] at hc4
   refine c_seq (c_region ?_)
   refine o_p (p_build (cells := [Vi 0, .slice none 0 0]) fp67 ze67 rfl rfl) ?_
   refine o_mv rfl rfl ?_
   refine o_storeN (i := 0) (vs := [Vi 0, .slice none 0 0]) (cs' := [Vi 0, .slice none 0 0]) rfl rfl rfl sz67 rfl rfl rfl rfl ?_
   refine o_as rfl rfl ?_
   refine o_as rfl rfl ?_
   refine o_nil (q_then (c_ret ?_))
   refine q_then_ret ?_
   obtain ⟨ha, hae⟩ : _ ∧ _ := by first | exact Lfu.run1 (c := u) (l := l) (by assumption) | exact Lfu.run2 (c := u) (l := l) (by assumption) (by assumption) | (obtain ⟨h1, h2⟩ := Lfu.run3 (c := u) (l := l) (by assumption) (by assumption); rw [hI.done (by omega)] at h1; exact ⟨h1, h2⟩)
   have hr0 : (0 : Int) = ((Lfu.run u l).1).room := by
    simp only [ha, hae, Lfu.zero]
   have hr1 : ([] : List DUse) = ((Lfu.run u l).1).list := by
    simp only [ha, hae, Lfu.zero]
   have hr2 : (0 : Int) = ((Lfu.run u l).2) := by
    simp only [ha, hae, Lfu.zero]
   have hr3 : ((Lru.trace l) : Int) = (Lfu.runErr u l) := by
    simp only [ha, hae, Lfu.zero]
   refine q_endM (p := (none, 0)) (fun _ => False) (rt3 rfl (r_cell (i := 0) rfl rfl sh67 rfl) (r_tmp rfl) (r_tmp rfl)) (i := 2) rfl ?_ ?_ ?_
   ·exact (by have hcc := congr (congr (congr (congrArg (fun (y0 : Int) (y1 : List DUse) (y2 : Int) (y3 : Int) => (.tuple #[.agg #[.int .i64 y0, .slice none y1.length 0], .int .i64 y2, .int .i64 y3] : Value)) hr0) hr1) hr2) hr3; exact hcc)
   ·intro w hw b hb; exact hb.elim
   ·intro w hw; exact Eq.mp (congrArg (fun y => SlO tUse _ w none 0 y) hr1) (SlO.nil tUse w)
  ·simp only [bne_eq_false_iff_eq] at hc4
   refine c_skip (q_then (c_seq (c_region ?_)))
   refine o_p (p_load_agg (i := 1) (vs := [Vi u.room, .slice au_0 u.list.length cu_0]) rfl rfl sh67 rfl rfl) ?_
   refine o_callX (pre := []) (R := [box B2 [Vi 0, .slice none 0 0] 67, box B1 [Vi u.room, .slice au_0 u.list.length cu_0] 67, base w0]) rfl (fowned_ok u au_0 cu_0 (by omega)) hf61 rfl (fun w hw => (rdX (i := 2) (js := []) rfl (by decide) rfl (fun _ hA => slR_base hu_0 hA)) w hw) rfl ?_
   rintro ⟨B5, a6, c7, S8⟩
   refine o_asH (H' := [box B5 [Vi u.room, .slice a6 u.list.length c7] 106, own tUse S8 a6 c7 u.list, box B2 [Vi 0, .slice none 0 0] 67, box B1 [Vi u.room, .slice au_0 u.list.length cu_0] 67, base w0]) rfl ?_
   refine o_as rfl rfl ?_
   refine o_as rfl rfl ?_
   refine o_nil (q_then (c_seq (c_seq (c_region ?_))))
   refine o_mv rfl rfl ?_
   refine o_p (p_len_slice rfl rfl Tryz.underlying26) ?_
   refine o_mv rfl rfl ?_
   refine o_nil (q_then (c_block ?_))
   refine c_loop (St := Int × Nat × DUses × Option Addr × Nat × (Nat → Prop))
    (fun ⟨hits, k, cc, acc_0, ccc_0, Scc_0⟩ => [(4, .pointer (some ⟨B2, 0, none⟩)), (8, .pointer (some ⟨B5, 0, none⟩)), (9, Vi hits), (26, .slice al l.length cl), (27, Vi (l.length : Int)), (28, Vi (k : Int))])
    (fun ⟨hits, k, cc, acc_0, ccc_0, Scc_0⟩ => [box B5 [Vi cc.room, .slice acc_0 cc.list.length ccc_0] 106, own tUse Scc_0 acc_0 ccc_0 cc.list, box B2 [Vi 0, .slice none 0 0] 67, box B1 [Vi u.room, .slice au_0 u.list.length cu_0] 67, base w0])
    (fun ⟨hits, k, cc, acc_0, ccc_0, Scc_0⟩ => Lfu.RInv u cc l hits k)
    (fun ⟨hits, k, cc, acc_0, ccc_0, Scc_0⟩ => l.length - k)
    (0, 0, u, a6, c7, S8) ?_ (sr (sr (sr (sr (sr (sr (Sub.nil _))))))) (fun _ hw => hw) ?_
   ·exact Lfu.RInv.start' (by assumption) (by assumption)
   rintro ⟨hits, k, cc, acc_0, ccc_0, Scc_0⟩ hI K hK10
   have hn0 := hI.n0
   have hn1 := hI.n1
   show SC _ _ Tryz.prog 47 w0 _ _ [(4, .pointer (some ⟨B2, 0, none⟩)), (8, .pointer (some ⟨B5, 0, none⟩)), (9, Vi hits), (26, .slice al l.length cl), (27, Vi (l.length : Int)), (28, Vi (k : Int))] [box B5 [Vi cc.room, .slice acc_0 cc.list.length ccc_0] 106, own tUse Scc_0 acc_0 ccc_0 cc.list, box B2 [Vi 0, .slice none 0 0] 67, box B1 [Vi u.room, .slice au_0 u.list.length cu_0] 67, base w0]
   refine c_seq (c_region ?_)
   refine o_p (p_lt rfl rfl) ?_
   refine o_nil (q_then (c_seq ?_))
   refine c_cond rfl (fun hc11 => ?_) (fun hc11 => ?_)
   ·simp only [decide_eq_true_eq] at hc11
    refine c_skip (q_then (c_seq (c_block (c_seq (c_region ?_)))))
    refine o_p (p_indexAddr (L := l) (T := tInt) (i := (k : Int)) rfl rfl (rd_base (i := 4) rfl hl) Tryz.underlying26 sz3 (by omega) (by omega)) ?_
    refine o_p (p_loadE1 (i := k) (T := tInt) (L := l) (v := Vi (l[k])) rfl (rd_base (i := 4) rfl hl) (by first | assumption | omega) sh3 rfl) ?_
    refine o_as rfl rfl ?_
    refine o_nil (q_then (c_seq (c_region ?_)))
    refine o_mv rfl rfl ?_
    refine o_mv rfl rfl ?_
    refine o_callX (pre := [box B5 [Vi cc.room, .slice acc_0 cc.list.length ccc_0] 106, own tUse Scc_0 acc_0 ccc_0 cc.list]) (R := [box B2 [Vi 0, .slice none 0 0] 67, box B1 [Vi u.room, .slice au_0 u.list.length cu_0] 67, base w0]) rfl (ftouch_ok cc B5 acc_0 ccc_0 Scc_0 (l[k]) (by first | assumption | exact hI.ok | omega)) hf62 rfl (fun _ _ => trivial) rfl ?_
    rintro ⟨a12, c13, S14⟩
    refine o_asH (H' := [box B5 [Vi (((Lfu.touch cc (l[k])).1).room), .slice a12 (((Lfu.touch cc (l[k])).1).list).length c13] 106, own tUse S14 a12 c13 (((Lfu.touch cc (l[k])).1).list), box B2 [Vi 0, .slice none 0 0] 67, box B1 [Vi u.room, .slice au_0 u.list.length cu_0] 67, base w0]) rfl ?_
    refine o_mv rfl rfl ?_
    refine o_ex rfl rfl rfl ?_
    refine o_ex rfl rfl rfl ?_
    refine o_as rfl rfl ?_
    refine o_as rfl rfl ?_
    refine o_nil (q_then (c_seq (c_region ?_)))
    refine o_mv rfl rfl ?_
    refine o_nil (q_then ?_)
    refine c_cond rfl (fun hc16 => ?_) (fun hc16 => ?_)
    ·skip
     refine c_region ?_
     refine o_mv rfl rfl ?_
     refine o_p (p_addb rfl rfl (by omega)) ?_
     refine o_as rfl rfl ?_
     refine o_nil ?_
     refine q_block_normal (q_then ?_)
     refine c_region ?_
     refine o_p (p_addb rfl rfl (by omega)) ?_
     refine o_mv rfl rfl ?_
     refine o_nil ?_
     refine q_round hK10 ((hits + 1), k + 1, ((Lfu.touch cc (l[k])).1), a12, c13, S14) ?_ ?_ ?_ ?_
     ·clear hK10
      first | exact hI.hit (by omega) (by assumption) | exact hI.miss (by omega) (by assumption)
     ·(try dsimp only); omega
     ·exact sr (sr (sr (sr (sr (sr (Sub.nil _))))))
     ·exact pk [0, 1, 2, 3, 4]
    ·skip
     refine c_skip ?_
     refine q_block_normal (q_then ?_)
     refine c_region ?_
     refine o_p (p_addb rfl rfl (by omega)) ?_
     refine o_mv rfl rfl ?_
     refine o_nil ?_
     refine q_round hK10 (hits, k + 1, ((Lfu.touch cc (l[k])).1), a12, c13, S14) ?_ ?_ ?_ ?_
     ·clear hK10
      first | exact hI.hit (by omega) (by assumption) | exact hI.miss (by omega) (by assumption)
     ·(try dsimp only); omega
     ·exact sr (sr (sr (sr (sr (sr (Sub.nil _))))))
     ·exact pk [0, 1, 2, 3, 4]
   ·simp only [decide_eq_false_iff_not, Int.not_lt] at hc11
    refine c_exit ?_
    refine q_then_exit (q_then_exit (q_block_exit (q_then ?_)))
    refine c_seq (c_region ?_)
    refine o_mv rfl rfl ?_
    refine o_p (p_nilCheck rfl) ?_
    refine o_p (p_fieldAddr (j' := 0) rfl fo106_0 rfl) ?_
    refine o_p (p_load_agg (i := 0) (vs := [Vi cc.room, .slice acc_0 cc.list.length ccc_0]) rfl rfl sh67 rfl rfl) ?_
    refine o_mv rfl rfl ?_
    refine o_storeN (i := 2) (vs := [Vi cc.room, .slice acc_0 cc.list.length ccc_0]) (cs' := [Vi cc.room, .slice acc_0 cc.list.length ccc_0]) rfl rfl rfl sz67 rfl rfl rfl rfl ?_
    refine o_as rfl rfl ?_
    refine o_as rfl rfl ?_
    refine o_nil (q_then (c_ret ?_))
    obtain ⟨ha, hae⟩ : _ ∧ _ := by first | exact Lfu.run1 (c := u) (l := l) (by assumption) | exact Lfu.run2 (c := u) (l := l) (by assumption) (by assumption) | (obtain ⟨h1, h2⟩ := Lfu.run3 (c := u) (l := l) (by assumption) (by assumption); rw [hI.done (by omega)] at h1; exact ⟨h1, h2⟩)
    have hr0 : (cc.room : Int) = ((Lfu.run u l).1).room := by
     simp only [ha, hae, Lfu.zero]
    have hr1 : (cc.list : List DUse) = ((Lfu.run u l).1).list := by
     simp only [ha, hae, Lfu.zero]
    have hr2 : (hits : Int) = ((Lfu.run u l).2) := by
     simp only [ha, hae, Lfu.zero]
    have hr3 : (0 : Int) = (Lfu.runErr u l) := by
     simp only [ha, hae, Lfu.zero]
    refine q_endM (p := (acc_0, ccc_0)) Scc_0 (rt3 rfl (r_cell (i := 2) rfl rfl sh67 rfl) (r_tmp rfl) (r_tmp rfl)) (i := 4) rfl ?_ ?_ ?_
    ·exact (by have hcc := congr (congr (congr (congrArg (fun (y0 : Int) (y1 : List DUse) (y2 : Int) (y3 : Int) => (.tuple #[.agg #[.int .i64 y0, .slice acc_0 y1.length ccc_0], .int .i64 y2, .int .i64 y3] : Value)) hr0) hr1) hr2) hr3; exact hcc)
    ·exact fun w hw => hw.above (i := 4) (j := 1) (by decide) rfl rfl
    ·intro w hw; exact Eq.mp (congrArg (fun y => SlO tUse _ w acc_0 ccc_0 y) hr1) ((hw.at (i := 1) rfl).here)
 ·simp only [beq_eq_false_iff_ne, ne_eq] at hc3
  refine c_skip (q_then (c_seq (c_seq (c_region ?_))))
  refine o_mv rfl rfl ?_
  refine o_p (p_ne rfl rfl) ?_
  refine o_nil (q_then ?_)
  refine c_cond rfl (fun hc17 => ?_) (fun hc17 => ?_)
  ·simp only [bne_iff_ne, ne_eq] at hc17
   refine c_seq (c_region ?_)
   refine o_p (p_build (cells := [Vi 0, .slice none 0 0]) fp67 ze67 rfl rfl) ?_
   refine o_mv rfl rfl ?_
   refine o_storeN (i := 0) (vs := [Vi 0, .slice none 0 0]) (cs' := [Vi 0, .slice none 0 0]) rfl rfl rfl sz67 rfl rfl rfl rfl ?_
   refine o_as rfl rfl ?_
   refine o_as rfl rfl ?_
   refine o_nil (q_then (c_ret ?_))
   refine q_then_ret ?_
   obtain ⟨ha, hae⟩ : _ ∧ _ := by first | exact Lfu.run1 (c := u) (l := l) (by assumption) | exact Lfu.run2 (c := u) (l := l) (by assumption) (by assumption) | (obtain ⟨h1, h2⟩ := Lfu.run3 (c := u) (l := l) (by assumption) (by assumption); rw [hI.done (by omega)] at h1; exact ⟨h1, h2⟩)
   have hr0 : (0 : Int) = ((Lfu.run u l).1).room := by
    simp only [ha, hae, Lfu.zero]
   have hr1 : ([] : List DUse) = ((Lfu.run u l).1).list := by
    simp only [ha, hae, Lfu.zero]
   have hr2 : (0 : Int) = ((Lfu.run u l).2) := by
    simp only [ha, hae, Lfu.zero]
   have hr3 : ((Lfu.check u) : Int) = (Lfu.runErr u l) := by
    simp only [ha, hae, Lfu.zero]
   refine q_endM (p := (none, 0)) (fun _ => False) (rt3 rfl (r_cell (i := 0) rfl rfl sh67 rfl) (r_tmp rfl) (r_tmp rfl)) (i := 2) rfl ?_ ?_ ?_
   ·exact (by have hcc := congr (congr (congr (congrArg (fun (y0 : Int) (y1 : List DUse) (y2 : Int) (y3 : Int) => (.tuple #[.agg #[.int .i64 y0, .slice none y1.length 0], .int .i64 y2, .int .i64 y3] : Value)) hr0) hr1) hr2) hr3; exact hcc)
   ·intro w hw b hb; exact hb.elim
   ·intro w hw; exact Eq.mp (congrArg (fun y => SlO tUse _ w none 0 y) hr1) (SlO.nil tUse w)
  ·simp only [bne_eq_false_iff_eq] at hc17
   exfalso; first | contradiction | omega | simp_all
end Go.Proofs.YtgkihbbeimhmbaaGreatDoor
