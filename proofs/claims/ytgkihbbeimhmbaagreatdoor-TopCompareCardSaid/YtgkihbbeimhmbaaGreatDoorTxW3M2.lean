/- The walks, printed by a program from the translation and a specification. -/
import Derived.Test.YtgkihbbeimhmbaaGreatDoorTxF
import Derived.Test.YtgkihbbeimhmbaaGreatDoorOpLaw4M17
import Derived.Test.YtgkihbbeimhmbaaGreatDoorTxW1
namespace Go.Proofs.YtgkihbbeimhmbaaGreatDoor
open Go.Sx Go.RowKit
set_option maxHeartbeats 8000000 in
set_option maxRecDepth 100000 in
theorem clone_Frame_ok (l : List DFrame) (al : Option Addr) (cl : Nat) (hy1 : l.length ≤ 1000000) : FnM Tryz.prog 92 [.slice al l.length cl] (fun w => Rd tFrame w al cl l) (Option Addr × Nat) (fun p => .slice p.1 l.length p.2) (fun p S w => SlO tFrame S w p.1 p.2 l) := by
 refine fnM (nt := 8) (F0 := [(0, .slice al l.length cl)]) Tryz.func92 rfl Tryz.ntmps92 rfl rfl (fun w0 hpre => ?_)
 have hl := hpre
 have hlhl := hl.2.1
 refine c_seq (c_region ?_)
 refine o_as rfl rfl ?_
 refine o_nil (q_then (c_seq (c_seq (c_region ?_))))
 refine o_mv rfl rfl ?_
 refine o_p (p_eqNil rfl rfl Tryz.underlying60) ?_
 refine o_nil (q_then ?_)
 refine c_cond rfl (fun hc1 => ?_) (fun hc1 => ?_)
 ·skip
  refine c_seq (c_region ?_)
  refine o_as rfl rfl ?_
  refine o_nil (q_then (c_ret ?_))
  refine q_then_ret ?_
  have hr0 : ([] : List DFrame) = l := by
   first | exact (rd_isNone hl (by assumption)).symm | simp
  refine q_endM (p := (none, 0)) (fun _ => False) (rt1 rfl (r_tmp rfl)) (i := 0) rfl ?_ ?_ ?_
  ·exact (by have hcc := congrArg (fun (y0 : List DFrame) => (.slice none y0.length 0 : Value)) hr0; exact hcc)
  ·intro w hw b hb; exact hb.elim
  ·intro w hw; exact Eq.mp (congrArg (fun y => SlO tFrame _ w none 0 y) hr0) (SlO.nil tFrame w)
 ·skip
  refine c_skip (q_then (c_seq (c_region ?_)))
  refine o_buildSlice (m := 0) (T := tFrame) (L := []) (vs := []) rfl rfl rfl rfl Tryz.underlying60 sz137 (by decide) ze137 rfl (by decide) rfl (fun S2 a3 => ?_)
  refine o_mv rfl rfl ?_
  refine o_append (i := 0) (L := []) (M := l) (T := tFrame) rfl rfl rfl (rd_base (i := 1) rfl hl) Tryz.underlying60 Tryz.underlying60 (by intro k h; cases h) el137 (by intro z; simp [tFrame, one1]) (by decide) (by simp only [List.length_nil]; omega) rfl (fun a5 c6 S7 => ?_)
  refine o_as rfl rfl ?_
  refine o_nil (q_then (c_ret ?_))
  have hr0 : (([] ++ l) : List DFrame) = l := by
   first | exact (rd_isNone hl (by assumption)).symm | simp
  refine q_endM (p := (a5, c6)) S7 (rt1 rfl (r_tmp rfl)) (i := 1) rfl ?_ ?_ ?_
  ·exact (by have hcc := congrArg (fun (y0 : List DFrame) => (.slice a5 y0.length c6 : Value)) hr0; exact hcc)
  ·exact fun w hw => hw.above (i := 1) (j := 0) (by decide) rfl rfl
  ·intro w hw; exact Eq.mp (congrArg (fun y => SlO tFrame _ w a5 c6 y) hr0) ((hw.at (i := 0) rfl).here)

set_option maxHeartbeats 8000000 in
set_option maxRecDepth 100000 in
theorem indexFunc_Frame_ok (l : List DFrame) (al : Option Addr) (cl : Nat) (gf : FuncId) (kf : List Value) (f : DFrame → Bool) (Pf : World → Prop) (stf : ∀ w w', Below w.heap.size w w' → Pf w → Pf w') (okf : ∀ (x : DFrame), Fn0 Tryz.prog gf (.agg #[Vi x.key, .bool x.used] :: kf) Pf (.bool (f x))) (hpf : HasFn Tryz.prog gf) : Fn0 Tryz.prog 93 [.slice al l.length cl, .func (.func gf) #[] kf.toArray] (fun w => Rd tFrame w al cl l ∧ Pf w) (Vi (idxF f l)) := by
 refine fn0 (nt := 19) (F0 := [(0, .slice al l.length cl), (1, .func (.func gf) #[] kf.toArray)]) Tryz.func93 rfl Tryz.ntmps93 rfl rfl (fun w0 hpre => ?_)
 obtain ⟨hl, hf⟩ := hpre
 have hlhl := hl.2.1
 refine c_seq (c_region ?_)
 refine o_as rfl rfl ?_
 refine o_nil (q_then (c_seq (c_seq (c_region ?_))))
 refine o_mv rfl rfl ?_
 refine o_p (p_len_slice rfl rfl Tryz.underlying60) ?_
 refine o_mv rfl rfl ?_
 refine o_nil (q_then (c_block ?_))
 refine c_loop (St := Nat)
  (fun k => [(0, .slice al l.length cl), (1, .func (.func gf) #[] kf.toArray), (7, Vi (l.length : Int)), (8, Vi (k : Int))])
  (fun k => [base w0])
  (fun k => k ≤ l.length ∧ ∀ j (h : j < l.length), j < k → f l[j] = false)
  (fun k => l.length - k)
  0 ?_ (sr (sr (sr (sr (Sub.nil _))))) (fun _ hw => hw) ?_
 ·exact ⟨Nat.zero_le _, fun j _ h => absurd h (by omega)⟩
 rintro k hI K hK1
 obtain ⟨hI1, hI2⟩ := hI
 show SC _ _ Tryz.prog 19 w0 _ _ [(0, .slice al l.length cl), (1, .func (.func gf) #[] kf.toArray), (7, Vi (l.length : Int)), (8, Vi (k : Int))] [base w0]
 refine c_seq (c_region ?_)
 refine o_p (p_lt rfl rfl) ?_
 refine o_nil (q_then (c_seq ?_))
 refine c_cond rfl (fun hc2 => ?_) (fun hc2 => ?_)
 ·simp only [decide_eq_true_eq] at hc2
  refine c_skip (q_then (c_seq (c_block (c_seq (c_region ?_)))))
  refine o_mv rfl rfl ?_
  refine o_as rfl rfl ?_
  refine o_nil (q_then (c_seq (c_region ?_)))
  refine o_mv rfl rfl ?_
  refine o_mv rfl rfl ?_
  refine o_mv rfl rfl ?_
  refine o_p (p_indexAddr (L := l) (T := tFrame) (i := (k : Int)) rfl rfl (rd_base (i := 0) rfl hl) Tryz.underlying60 sz137 (by omega) (by omega)) ?_
  refine o_p (p_loadEn (i := k) (T := tFrame) (L := l) (vs := [Vi ((l[k]).key), .bool ((l[k]).used)]) rfl (rd_base (i := 0) rfl hl) (by first | assumption | omega) sh137 rfl) ?_
  refine o_call0V (vs := [.agg #[Vi ((l[k]).key), .bool ((l[k]).used)]]) (caps := kf) (v := .bool (f (l[k]))) rfl rfl (okf (l[k])) hpf (pre_base (i := 0) rfl stf hf) rfl ?_
  refine o_nil (q_then ?_)
  refine c_cond rfl (fun hc3 => ?_) (fun hc3 => ?_)
  ·skip
   refine c_seq (c_region ?_)
   refine o_mv rfl rfl ?_
   refine o_as rfl rfl ?_
   refine o_nil (q_then (c_ret ?_))
   refine q_block_ret (q_then_ret (q_then_ret (q_block_ret (q_then_ret ?_))))
   have hr0 : ((k : Int) : Int) = (idxF f l) := by
    first | exact idxF_found (by omega) (by assumption) hI2 | exact idxF_none (fun j h => hI2 j h (by omega))
   refine q_end0 (v := Vi (k : Int)) (rt1 rfl (r_tmp rfl)) (i := 0) rfl ?_
   exact (by have hcc := congrArg (fun (y0 : Int) => (.int .i64 y0 : Value)) hr0; exact hcc)
  ·skip
   refine c_skip ?_
   refine q_block_normal (q_then ?_)
   refine c_region ?_
   refine o_p (p_addb rfl rfl (by omega)) ?_
   refine o_mv rfl rfl ?_
   refine o_nil ?_
   refine q_round hK1 (k + 1) ?_ ?_ ?_ ?_
   ·clear hK1
    refine ⟨by omega, fun j h h2 => ?_⟩
    by_cases e : j = k
    ·subst e; assumption
    ·exact hI2 j h (by omega)
   ·(try dsimp only); omega
   ·exact sr (sr (sr (sr (Sub.nil _))))
   ·exact pk [0]
 ·simp only [decide_eq_false_iff_not, Int.not_lt] at hc2
  refine c_exit ?_
  refine q_then_exit (q_then_exit (q_block_exit (q_then ?_)))
  refine c_seq (c_region ?_)
  refine o_as rfl rfl ?_
  refine o_nil (q_then (c_ret ?_))
  have hr0 : ((-1) : Int) = (idxF f l) := by
   first | exact idxF_found (by omega) (by assumption) hI2 | exact idxF_none (fun j h => hI2 j h (by omega))
  refine q_end0 (v := Vi (-1)) (rt1 rfl (r_tmp rfl)) (i := 0) rfl ?_
  exact (by have hcc := congrArg (fun (y0 : Int) => (.int .i64 y0 : Value)) hr0; exact hcc)

set_option maxHeartbeats 8000000 in
set_option maxRecDepth 100000 in
theorem touch1_ok (f : DFrame) (Bk : Nat) (key : Int) : Fn0 Tryz.prog 94 [.agg #[Vi f.key, .bool f.used], .pointer (some ⟨Bk, 0, none⟩)] (fun w => (box Bk [Vi key] 3).A w) (.bool (f.key == key)) := by
 refine fn0 (nt := 8) (F0 := [(0, .agg #[Vi f.key, .bool f.used]), (1, .pointer (some ⟨Bk, 0, none⟩))]) Tryz.func94 rfl Tryz.ntmps94 rfl rfl (fun w0 hpre => ?_)
 have hBk := hpre
 refine c_seq (c_region ?_)
 refine o_box (v := .agg #[Vi f.key, .bool f.used]) rfl rfl (fun B1 => ?_)
 refine o_as rfl rfl ?_
 refine o_nil (q_then (c_seq (c_region ?_)))
 refine o_p (p_fieldAddr (j' := 0) rfl fo137_0 rfl) ?_
 refine o_p (p_load (i := 0) (v := Vi f.key) rfl rfl sh3 rfl) ?_
 refine o_p (p_loadR (v := Vi key) rfl (rbox_base (i := 1) rfl hBk) sh3 rfl) ?_
 refine o_p (p_eq rfl rfl) ?_
 refine o_as rfl rfl ?_
 refine o_nil (q_then (c_ret ?_))
 refine q_end0 (v := .bool (f.key == key)) (rt1 rfl (r_tmp rfl)) (i := 1) rfl ?_
 exact rfl

set_option maxHeartbeats 8000000 in
set_option maxRecDepth 100000 in
theorem step_ok (c : DClock) (Bc : Nat) (ac_0 : Option Addr) (cc_0 : Nat) (Sc_0 : Nat → Prop) (hy1 : 0 ≤ c.hand ∧ c.hand ≤ 100 ∧ 0 < c.frames.length) : FnX Tryz.prog 95 [.pointer (some ⟨Bc, 0, none⟩)] [box Bc [Vi c.room, Vi c.hand, .slice ac_0 c.frames.length cc_0] 101, own tFrame Sc_0 ac_0 cc_0 c.frames] (fun _ => True) (Option Addr × Nat × (Nat → Prop)) (fun p => .tuple #[]) (fun p => [box Bc [Vi c.room, Vi ((c.hand + 1).tmod (c.frames.length : Int)), .slice p.1 c.frames.length p.2.1] 101, own tFrame p.2.2 p.1 p.2.1 c.frames]) := by
 refine fnX (nt := 19) (F0 := [(0, .pointer (some ⟨Bc, 0, none⟩))]) Tryz.func95 rfl Tryz.ntmps95 rfl rfl (fun w0 hpre => ?_)
 refine c_know (fun w hw => own_len (i := 2) (T := tFrame) hw rfl) (fun hlown_c_0 => ?_)
 obtain ⟨hcown_c_0, hlown_c_0⟩ := hlown_c_0
 refine c_cut (G := Unit) (fun _ => []) (fun _ => [outer w0 [box Bc [Vi c.room, Vi c.hand, .slice ac_0 c.frames.length cc_0] 101, own tFrame Sc_0 ac_0 cc_0 c.frames], box Bc [Vi c.room, Vi ((c.hand + 1).tmod (c.frames.length : Int)), .slice ac_0 c.frames.length cc_0] 101, own tFrame Sc_0 ac_0 cc_0 c.frames]) (fun K hK2 => ?_) ?_
 ·refine c_held hmix [outer w0 [box Bc [Vi c.room, Vi c.hand, .slice ac_0 c.frames.length cc_0] 101, own tFrame Sc_0 ac_0 cc_0 c.frames], own tFrame Sc_0 ac_0 cc_0 c.frames] rfl rfl ?_
  refine h_tk (i := 0) (ls := #[T1,F0,F0,F0,F0,F0,F0,F0,F0,F0,F0,F0,F0,F0,F0,F0,F0,F0]) rfl (p_move rfl) (dp (lj (lz (lj (ln))))) ?_
  refine h_tk (i := 1) (ls := #[T1,T1,F0,F0,F0,F0,F0,F0,F0,F0,F0,F0,F0,F0,F0,F0,F0,F0]) rfl (p_move rfl) (dp (lj (lz (lj (ln))))) ?_
  refine h_tk (i := 2) (ls := #[T1,T1,T1,F0,F0,F0,F0,F0,F0,F0,F0,F0,F0,F0,F0,F0,F0,F0]) rfl (p_nilCheck rfl) (dp (lj (lz (lj (ln))))) ?_
  refine h_tk (i := 3) (ls := #[T1,T1,T1,T1,F0,F0,F0,F0,F0,F0,F0,F0,F0,F0,F0,F0,F0,F0]) rfl (p_fieldAddr (j' := 0) rfl fo101_0 rfl) (dp (lj (lz (lj (ln))))) ?_
  refine h_tk (i := 4) (ls := #[T1,T1,T1,T1,T1,F0,F0,F0,F0,F0,F0,F0,F0,F0,F0,F0,F0,F0]) rfl (p_fieldAddr (j' := 1) rfl fo62_1 rfl) (dp (lj (lz (lj (ln))))) ?_
  refine h_tk (i := 7) (ls := #[T1,T1,T1,T1,T1,F0,F0,T1,F0,F0,F0,F0,F0,F0,F0,F0,F0,F0]) rfl (p_move rfl) (dp (lj (lz (lj (ln))))) ?_
  refine h_tk (i := 8) (ls := #[T1,T1,T1,T1,T1,F0,F0,T1,T1,F0,F0,F0,F0,F0,F0,F0,F0,F0]) rfl (p_nilCheck rfl) (dp (lj (lz (lj (ln))))) ?_
  refine h_tk (i := 9) (ls := #[T1,T1,T1,T1,T1,F0,F0,T1,T1,T1,F0,F0,F0,F0,F0,F0,F0,F0]) rfl (p_fieldAddr (j' := 0) rfl fo101_0 rfl) (dp (lj (lz (lj (ln))))) ?_
  refine h_tk (i := 10) (ls := #[T1,T1,T1,T1,T1,F0,F0,T1,T1,T1,T1,F0,F0,F0,F0,F0,F0,F0]) rfl (p_fieldAddr (j' := 2) rfl fo62_2 rfl) (dp (lj (lz (lj (ln))))) ?_
  refine h_two (i := 5) (j := 11) (ls := #[T1,T1,T1,T1,T1,T1,F0,T1,T1,T1,T1,F0,F0,F0,F0,F0,F0,F0]) (ls' := #[T1,T1,T1,T1,T1,F0,F0,T1,T1,T1,T1,T1,F0,F0,F0,F0,F0,F0]) (by kernel_rfl) rfl rfl rfl rfl ?_ ?_
  ·refine o_p (p_load (i := 1) (v := Vi c.hand) rfl rfl sh3 rfl) ?_
   refine o_nil ?_
   refine h_next (dp (lj (lz (lj (ln))))) ?_
   refine h_tk (i := 6) (ls := #[T1,T1,T1,T1,T1,T1,T1,T1,T1,T1,T1,F0,F0,F0,F0,F0,F0,F0]) rfl (p_addb rfl rfl (by omega)) (dp (lj (lz (lj (ln))))) ?_
   refine h_one (i := 11) (ls := #[T1,T1,T1,T1,T1,T1,T1,T1,T1,T1,T1,T1,F0,F0,F0,F0,F0,F0]) (by kernel_rfl) rfl rfl ?_
   refine o_p (p_load (i := 1) (v := .slice ac_0 c.frames.length cc_0) rfl rfl sh60 rfl) ?_
   refine o_nil ?_
   refine h_next (dp (lj (lz (lj (ln))))) ?_
   refine h_tk (i := 12) (ls := #[T1,T1,T1,T1,T1,T1,T1,T1,T1,T1,T1,T1,T1,F0,F0,F0,F0,F0]) rfl (p_len_slice rfl rfl Tryz.underlying60) (dp (lj (lz (lj (ln))))) ?_
   refine h_tk (i := 13) (ls := #[T1,T1,T1,T1,T1,T1,T1,T1,T1,T1,T1,T1,T1,T1,F0,F0,F0,F0]) rfl (p_rem (p := (c.hand + 1)) (q := (c.frames.length : Int)) rfl rfl (by omega)) (dp (lj (lz (lj (ln))))) ?_
   refine h_tk (i := 14) (ls := #[T1,T1,T1,T1,T1,T1,T1,T1,T1,T1,T1,T1,T1,T1,T1,F0,F0,F0]) rfl (p_nilCheck rfl) (dp (lj (lz (lj (ln))))) ?_
   refine h_tk (i := 15) (ls := #[T1,T1,T1,T1,T1,T1,T1,T1,T1,T1,T1,T1,T1,T1,T1,T1,F0,F0]) rfl (p_fieldAddr (j' := 0) rfl fo101_0 rfl) (dp (lj (lz (lj (ln))))) ?_
   refine h_tk (i := 16) (ls := #[T1,T1,T1,T1,T1,T1,T1,T1,T1,T1,T1,T1,T1,T1,T1,T1,T1,F0]) rfl (p_fieldAddr (j' := 1) rfl fo62_1 rfl) (dp (lj (lz (lj (ln))))) ?_
   refine h_one (i := 17) (ls := #[T1,T1,T1,T1,T1,T1,T1,T1,T1,T1,T1,T1,T1,T1,T1,T1,T1,T1]) (by kernel_rfl) rfl rfl ?_
   refine o_store (i := 1) (v := Vi ((c.hand + 1).tmod (c.frames.length : Int))) (cs' := [Vi c.room, Vi ((c.hand + 1).tmod (c.frames.length : Int)), .slice ac_0 c.frames.length cc_0]) rfl rfl rfl sz3 rfl rfl rfl ?_
   refine o_nil ?_
   refine h_next (dp (lj (lz (lj (ln))))) ?_
   refine h_done (by kernel_rfl) ?_
   refine q_kont hK2 () (Sub.nil _) (pk [0, 1, 2])
  ·refine o_p (p_load (i := 1) (v := .slice ac_0 c.frames.length cc_0) rfl rfl sh60 rfl) ?_
   refine o_nil ?_
   refine h_next (dp (lj (lz (lj (ln))))) ?_
   refine h_tk (i := 12) (ls := #[T1,T1,T1,T1,T1,F0,F0,T1,T1,T1,T1,T1,T1,F0,F0,F0,F0,F0]) rfl (p_len_slice rfl rfl Tryz.underlying60) (dp (lj (lz (lj (ln))))) ?_
   refine h_one (i := 5) (ls := #[T1,T1,T1,T1,T1,T1,F0,T1,T1,T1,T1,T1,T1,F0,F0,F0,F0,F0]) (by kernel_rfl) rfl rfl ?_
   refine o_p (p_load (i := 1) (v := Vi c.hand) rfl rfl sh3 rfl) ?_
   refine o_nil ?_
   refine h_next (dp (lj (lz (lj (ln))))) ?_
   refine h_tk (i := 6) (ls := #[T1,T1,T1,T1,T1,T1,T1,T1,T1,T1,T1,T1,T1,F0,F0,F0,F0,F0]) rfl (p_addb rfl rfl (by omega)) (dp (lj (lz (lj (ln))))) ?_
   refine h_tk (i := 13) (ls := #[T1,T1,T1,T1,T1,T1,T1,T1,T1,T1,T1,T1,T1,T1,F0,F0,F0,F0]) rfl (p_rem (p := (c.hand + 1)) (q := (c.frames.length : Int)) rfl rfl (by omega)) (dp (lj (lz (lj (ln))))) ?_
   refine h_tk (i := 14) (ls := #[T1,T1,T1,T1,T1,T1,T1,T1,T1,T1,T1,T1,T1,T1,T1,F0,F0,F0]) rfl (p_nilCheck rfl) (dp (lj (lz (lj (ln))))) ?_
   refine h_tk (i := 15) (ls := #[T1,T1,T1,T1,T1,T1,T1,T1,T1,T1,T1,T1,T1,T1,T1,T1,F0,F0]) rfl (p_fieldAddr (j' := 0) rfl fo101_0 rfl) (dp (lj (lz (lj (ln))))) ?_
   refine h_tk (i := 16) (ls := #[T1,T1,T1,T1,T1,T1,T1,T1,T1,T1,T1,T1,T1,T1,T1,T1,T1,F0]) rfl (p_fieldAddr (j' := 1) rfl fo62_1 rfl) (dp (lj (lz (lj (ln))))) ?_
   refine h_one (i := 17) (ls := #[T1,T1,T1,T1,T1,T1,T1,T1,T1,T1,T1,T1,T1,T1,T1,T1,T1,T1]) (by kernel_rfl) rfl rfl ?_
   refine o_store (i := 1) (v := Vi ((c.hand + 1).tmod (c.frames.length : Int))) (cs' := [Vi c.room, Vi ((c.hand + 1).tmod (c.frames.length : Int)), .slice ac_0 c.frames.length cc_0]) rfl rfl rfl sz3 rfl rfl rfl ?_
   refine o_nil ?_
   refine h_next (dp (lj (lz (lj (ln))))) ?_
   refine h_done (by kernel_rfl) ?_
   refine q_kont hK2 () (Sub.nil _) (pk [0, 1, 2])
 rintro _
 show SQ _ 19 w0 _ _ [] [outer w0 [box Bc [Vi c.room, Vi c.hand, .slice ac_0 c.frames.length cc_0] 101, own tFrame Sc_0 ac_0 cc_0 c.frames], box Bc [Vi c.room, Vi ((c.hand + 1).tmod (c.frames.length : Int)), .slice ac_0 c.frames.length cc_0] 101, own tFrame Sc_0 ac_0 cc_0 c.frames]
 refine q_endX (p := (ac_0, cc_0, Sc_0)) (rt0 rfl) ?_ (fun w hw => ?_)
 ·exact rfl
 ·have h2 := hw.pick (H' := [outer w0 [box Bc [Vi c.room, Vi c.hand, .slice ac_0 c.frames.length cc_0] 101, own tFrame Sc_0 ac_0 cc_0 c.frames], box Bc [Vi c.room, Vi ((c.hand + 1).tmod (c.frames.length : Int)), .slice ac_0 c.frames.length cc_0] 101, own tFrame Sc_0 ac_0 cc_0 c.frames]) [0, 1, 2] (by decide) rfl
  exact Eq.mp (congrArg (fun z => HeapIs w0 ((outer w0 [box Bc [Vi c.room, Vi c.hand, .slice ac_0 c.frames.length cc_0] 101, own tFrame Sc_0 ac_0 cc_0 c.frames]) :: z) w) (rfl)) h2

set_option maxHeartbeats 8000000 in
set_option maxRecDepth 100000 in
theorem ckeys_ok (l : List DFrame) (al : Option Addr) (cl : Nat) (hy1 : l.length ≤ 1000000) : FnM Tryz.prog 91 [.slice al l.length cl] (fun w => Rd tFrame w al cl l) (Option Addr × Nat) (fun p => .slice p.1 (Clock.keysOf l).length p.2) (fun p S w => SlO tInt S w p.1 p.2 (Clock.keysOf l)) := by
 refine fnM (nt := 23) (F0 := [(0, .slice al l.length cl)]) Tryz.func91 rfl Tryz.ntmps91 rfl rfl (fun w0 hpre => ?_)
 have hl := hpre
 have hlhl := hl.2.1
 refine c_seq (c_region ?_)
 refine o_as rfl rfl ?_
 refine o_nil (q_then (c_seq (c_region ?_)))
 refine o_mv rfl rfl ?_
 refine o_p (p_len_slice rfl rfl Tryz.underlying60) ?_
 refine o_makeSlice (T := tInt) (m := (l.length : Int)) (z := 0) rfl rfl Tryz.underlying26 el3 ze3 rfl (by decide) (by omega) (by omega) rfl (fun S2 a1 => ?_)
 refine o_as rfl rfl ?_
 refine o_nil (q_then (c_seq (c_seq (c_region ?_))))
 refine o_mv rfl rfl ?_
 refine o_p (p_len_slice rfl rfl Tryz.underlying60) ?_
 refine o_mv rfl rfl ?_
 refine o_nil (q_then (c_block ?_))
 refine c_loop (St := Nat × List Int)
  (fun ⟨k, out⟩ => [(3, .slice a1 out.length ((l.length : Int).toNat)), (9, .slice al l.length cl), (10, Vi (l.length : Int)), (11, Vi (k : Int))])
  (fun ⟨k, out⟩ => [own tInt S2 a1 ((l.length : Int).toNat) out, base w0])
  (fun ⟨k, out⟩ => k ≤ l.length ∧ out = Clock.keysTo l k)
  (fun ⟨k, out⟩ => l.length - k)
  (0, (List.replicate ((l.length : Int).toNat) 0)) ?_ (sr (sr (sr (sr (Sub.nil _))))) (fun _ hw => hw) ?_
 ·exact ⟨Nat.zero_le _, Clock.keysTo_zero l⟩
 rintro ⟨k, out⟩ hI K hK4
 obtain ⟨hI1, hI2⟩ := hI
 have ho : out.length = l.length := by rw [hI2, Clock.keysTo_length hI1]
 show SC _ _ Tryz.prog 23 w0 _ _ [(3, .slice a1 out.length ((l.length : Int).toNat)), (9, .slice al l.length cl), (10, Vi (l.length : Int)), (11, Vi (k : Int))] [own tInt S2 a1 ((l.length : Int).toNat) out, base w0]
 refine c_seq (c_region ?_)
 refine o_p (p_lt rfl rfl) ?_
 refine o_nil (q_then (c_seq ?_))
 refine c_cond rfl (fun hc5 => ?_) (fun hc5 => ?_)
 ·simp only [decide_eq_true_eq] at hc5
  refine c_skip (q_then (c_seq (c_block (c_seq (c_region ?_)))))
  refine o_mv rfl rfl ?_
  refine o_p (p_indexAddr (L := l) (T := tFrame) (i := (k : Int)) rfl rfl (rd_base (i := 1) rfl hl) Tryz.underlying60 sz137 (by omega) (by omega)) ?_
  refine o_p (p_loadEn (i := k) (T := tFrame) (L := l) (vs := [Vi ((l[k]).key), .bool ((l[k]).used)]) rfl (rd_base (i := 1) rfl hl) (by first | assumption | omega) sh137 rfl) ?_
  refine o_alloc ze137 rfl (fun B6 => ?_)
  refine o_as rfl rfl ?_
  refine o_storeN (i := 0) (vs := [Vi ((l[k]).key), .bool ((l[k]).used)]) (cs' := [Vi ((l[k]).key), .bool ((l[k]).used)]) rfl rfl rfl sz137 rfl rfl rfl rfl ?_
  refine o_nil (q_then (c_region ?_))
  refine o_mv rfl rfl ?_
  refine o_mv rfl rfl ?_
  refine o_p (p_fieldAddr (j' := 0) rfl fo137_0 rfl) ?_
  refine o_p (p_load (i := 0) (v := Vi ((l[k]).key)) rfl rfl sh3 rfl) ?_
  refine o_p (p_indexAddr (L := out) (T := tInt) (i := (k : Int)) rfl rfl (rd_own (i := 1) rfl) Tryz.underlying26 sz3 (by omega) (by omega)) ?_
  refine o_storeW (i := 1) (T := tInt) (idx := k) (v := Vi ((l[k]).key)) (vs := [Vi ((l[k]).key)]) (z := (l[k]).key) (F' := [(3, .slice a1 (out.set k ((l[k]).key)).length ((l.length : Int).toNat)), (9, .slice al l.length cl), (10, Vi (l.length : Int)), (11, Vi (k : Int))]) rfl rfl rfl rfl (by first | assumption | omega | (simp only [List.length_set]; omega)) sz3 rfl rfl rfl rfl (Sub.cons (by first | (simp only [List.length_set]; rfl) | (show some _ = some _; congr 2; rw [List.length_set]) | (rw [List.length_set]; rfl)) (sr (sr (sr (Sub.nil _))))) ?_
  refine o_nil ?_
  refine q_block_normal (q_then ?_)
  refine c_region ?_
  refine o_p (p_addb rfl rfl (by omega)) ?_
  refine o_mv rfl rfl ?_
  refine o_nil ?_
  refine q_round hK4 (k + 1, (out.set k ((l[k]).key))) ?_ ?_ ?_ ?_
  ·clear hK4
   exact ⟨by omega, Clock.keysTo_next (by omega) hI2⟩
  ·(try dsimp only); omega
  ·exact sr (sr (sr (sr (Sub.nil _))))
  ·exact pk [1, 2]
 ·simp only [decide_eq_false_iff_not, Int.not_lt] at hc5
  refine c_exit ?_
  refine q_then_exit (q_then_exit (q_block_exit (q_then ?_)))
  refine c_seq (c_region ?_)
  refine o_mv rfl rfl ?_
  refine o_as rfl rfl ?_
  refine o_nil (q_then (c_ret ?_))
  have hr0 : (out : List Int) = (Clock.keysOf l) := by
   exact Clock.keys_end (by omega) hI2
  refine q_endM (p := (a1, (l.length : Int).toNat)) S2 (rt1 rfl (r_tmp rfl)) (i := 1) rfl ?_ ?_ ?_
  ·exact (by have hcc := congrArg (fun (y0 : List Int) => (.slice a1 y0.length ((l.length : Int).toNat) : Value)) hr0; exact hcc)
  ·exact fun w hw => hw.above (i := 1) (j := 0) (by decide) rfl rfl
  ·intro w hw; exact Eq.mp (congrArg (fun y => SlO tInt _ w a1 ((l.length : Int).toNat) y) hr0) ((hw.at (i := 0) rfl).here)

set_option maxHeartbeats 8000000 in
set_option maxRecDepth 100000 in
theorem ccheck_ok (c : DClock) (ac_0 : Option Addr) (cc_0 : Nat) : Fn0 Tryz.prog 57 [.agg #[Vi c.room, Vi c.hand, .slice ac_0 c.frames.length cc_0]] (fun w => Rd tFrame w ac_0 cc_0 c.frames) (Vi (Clock.check c)) := by
 refine fn0 (nt := 36) (F0 := [(0, .agg #[Vi c.room, Vi c.hand, .slice ac_0 c.frames.length cc_0])]) Tryz.func57 rfl Tryz.ntmps57 rfl rfl (fun w0 hpre => ?_)
 have hc_0 := hpre
 have hlhc_0 := hc_0.2.1
 refine c_seq (c_region ?_)
 refine o_box (v := .agg #[Vi c.room, Vi c.hand, .slice ac_0 c.frames.length cc_0]) rfl rfl (fun B1 => ?_)
 refine o_as rfl rfl ?_
 refine o_nil (q_then (c_seq (c_block (c_seq (c_region ?_)))))
 refine o_p (p_fieldAddr (j' := 0) rfl fo62_0 rfl) ?_
 refine o_p (p_load (i := 0) (v := Vi c.room) rfl rfl sh3 rfl) ?_
 refine o_call0 (v := .bool (Lru.okRoom c.room)) rfl (room_ok c.room) hf36 (fun _ _ => trivial) rfl ?_
 refine o_p (p_not (b := (Lru.okRoom c.room)) rfl) ?_
 refine o_as rfl rfl ?_
 refine o_nil (q_then ?_)
 refine c_cond rfl (fun hc2 => ?_) (fun hc2 => ?_)
 ·simp only [Bool.not_eq_true'] at hc2
  refine c_seq (c_region ?_)
  refine o_as rfl rfl ?_
  refine o_nil (q_then (c_ret ?_))
  refine q_block_ret (q_then_ret ?_)
  have hr0 : (3 : Int) = (Clock.check c) := by
   simp only [Clock.check]; grind
  refine q_end0 (v := Vi 3) (rt1 rfl (r_tmp rfl)) (i := 1) rfl ?_
  exact (by have hcc := congrArg (fun (y0 : Int) => (.int .i64 y0 : Value)) hr0; exact hcc)
 ·simp only [Bool.not_eq_false'] at hc2
  have hroom := Lru.room_ok hc2
  refine c_seq (c_region ?_)
  refine o_p (p_fieldAddr (j' := 2) rfl fo62_2 rfl) ?_
  refine o_p (p_load (i := 0) (v := .slice ac_0 c.frames.length cc_0) rfl rfl sh60 rfl) ?_
  refine o_p (p_len_slice rfl rfl Tryz.underlying60) ?_
  refine o_p (p_fieldAddr (j' := 0) rfl fo62_0 rfl) ?_
  refine o_p (p_load (i := 0) (v := Vi c.room) rfl rfl sh3 rfl) ?_
  refine o_p (p_gt rfl rfl) ?_
  refine o_as rfl rfl ?_
  refine o_nil (q_then ?_)
  refine c_cond rfl (fun hc3 => ?_) (fun hc3 => ?_)
  ·simp only [decide_eq_true_eq] at hc3
   refine c_seq (c_region ?_)
   refine o_as rfl rfl ?_
   refine o_nil (q_then (c_ret ?_))
   refine q_block_ret (q_then_ret ?_)
   have hr0 : (2 : Int) = (Clock.check c) := by
    simp only [Clock.check]; grind
   refine q_end0 (v := Vi 2) (rt1 rfl (r_tmp rfl)) (i := 1) rfl ?_
   exact (by have hcc := congrArg (fun (y0 : Int) => (.int .i64 y0 : Value)) hr0; exact hcc)
  ·simp only [decide_eq_false_iff_not, Int.not_lt] at hc3
   refine c_skip ?_
   refine q_block_normal (q_then ?_)
   refine c_seq (c_seq (c_region ?_))
   refine o_p (p_fieldAddr (j' := 2) rfl fo62_2 rfl) ?_
   refine o_p (p_load (i := 0) (v := .slice ac_0 c.frames.length cc_0) rfl rfl sh60 rfl) ?_
   refine o_callM rfl (ckeys_ok c.frames ac_0 cc_0 (by omega)) hf91 (fun w hw => (rd_base (i := 1) rfl hc_0) w hw) rfl (fun _ _ _ _ ha hA => SlO.agree ha hA) ?_
   rintro ⟨a6, c7⟩ S4
   refine o_know (fun w hw => own_len (i := 0) (T := tInt) hw rfl) (fun hlr8 => ?_)
   refine o_call0 (v := Vi (Lru.keys (Clock.keysOf c.frames))) rfl (keys_ok (Clock.keysOf c.frames) a6 c7) hf37 (fun w hw => (rd_own (i := 0) rfl) w hw) rfl ?_
   refine o_as rfl rfl ?_
   refine o_nil (q_then (c_seq (c_region ?_)))
   refine o_mv rfl rfl ?_
   refine o_p (p_ne rfl rfl) ?_
   refine o_nil (q_then ?_)
   refine c_cond rfl (fun hc9 => ?_) (fun hc9 => ?_)
   ·simp only [bne_iff_ne, ne_eq] at hc9
    refine c_seq (c_region ?_)
    refine o_mv rfl rfl ?_
    refine o_as rfl rfl ?_
    refine o_nil (q_then (c_ret ?_))
    refine q_then_ret ?_
    have hr0 : ((Lru.keys (Clock.keysOf c.frames)) : Int) = (Clock.check c) := by
     simp only [Clock.check]; grind
    refine q_end0 (v := Vi (Lru.keys (Clock.keysOf c.frames))) (rt1 rfl (r_tmp rfl)) (i := 2) rfl ?_
    exact (by have hcc := congrArg (fun (y0 : Int) => (.int .i64 y0 : Value)) hr0; exact hcc)
   ·simp only [bne_eq_false_iff_eq] at hc9
    refine c_skip (q_then (c_seq (c_seq (c_region ?_))))
    refine o_p (p_fieldAddr (j' := 1) rfl fo62_1 rfl) ?_
    refine o_p (p_load (i := 1) (v := Vi c.hand) rfl rfl sh3 rfl) ?_
    refine o_p (p_lt rfl rfl) ?_
    refine o_mv rfl rfl ?_
    refine o_or (p := 35) 9 (decide ((max 0 ((c.frames.length : Int) - 1)) < c.hand)) ?_ ?_ ?_
    ·intro hb10 hk
     simp only [decide_eq_false_iff_not, Int.not_lt] at hb10
     refine o_unguard 26 rfl rfl ?_
     refine o_p (p_fieldAddr (j' := 1) rfl fo62_1 rfl) ?_
     refine o_unguard 26 rfl rfl ?_
     refine o_p (p_load (i := 1) (v := Vi c.hand) rfl rfl sh3 rfl) ?_
     refine o_unguard 26 rfl rfl ?_
     refine o_p (p_fieldAddr (j' := 2) rfl fo62_2 rfl) ?_
     refine o_unguard 26 rfl rfl ?_
     refine o_p (p_load (i := 1) (v := .slice ac_0 c.frames.length cc_0) rfl rfl sh60 rfl) ?_
     refine o_unguard 26 rfl rfl ?_
     refine o_p (p_len_slice rfl rfl Tryz.underlying60) ?_
     refine o_unguard 26 rfl rfl ?_
     refine o_p (p_subb rfl rfl (by omega)) ?_
     refine o_unguard 26 rfl rfl ?_
     refine o_p (p_max (p := 0) (q := ((c.frames.length : Int) - 1)) rfl rfl) ?_
     refine o_unguard 26 rfl rfl ?_
     refine o_p (p_gt rfl rfl) ?_
     refine o_pf rfl rfl rfl ?_
     exact o_sub (sr (Sub.skip rfl (Sub.skip rfl (Sub.skip rfl (Sub.skip rfl (Sub.skip rfl (Sub.skip rfl (Sub.skip rfl (Sub.skip rfl (Sub.skip rfl (Sub.skip rfl (Sub.refl _)))))))))))) hk
    ·intro hb10 hk
     refine o_guard_no rfl 26 rfl rfl rfl rfl rfl ?_
     refine o_guard_no rfl 26 rfl rfl rfl rfl rfl ?_
     refine o_guard_no rfl 26 rfl rfl rfl rfl rfl ?_
     refine o_guard_no rfl 26 rfl rfl rfl rfl rfl ?_
     refine o_guard_no rfl 26 rfl rfl rfl rfl rfl ?_
     refine o_guard_no rfl 26 rfl rfl rfl rfl rfl ?_
     refine o_guard_no rfl 26 rfl rfl rfl rfl rfl ?_
     refine o_guard_no rfl 26 rfl rfl rfl rfl rfl ?_
     refine o_pt rfl rfl rfl ?_
     exact o_sub (sr (Sub.skip rfl (Sub.skip rfl (Sub.skip rfl (Sub.skip rfl (Sub.skip rfl (Sub.skip rfl (Sub.skip rfl (Sub.skip rfl (Sub.skip rfl (Sub.skip rfl (Sub.refl _)))))))))))) hk
    refine o_nil (q_then ?_)
    refine c_cond rfl (fun hc11 => ?_) (fun hc11 => ?_)
    ·simp only [Bool.or_eq_true, decide_eq_true_eq] at hc11
     refine c_seq (c_region ?_)
     refine o_as rfl rfl ?_
     refine o_nil (q_then (c_ret ?_))
     refine q_then_ret ?_
     have hr0 : (4 : Int) = (Clock.check c) := by
      simp only [Clock.check]; grind
     refine q_end0 (v := Vi 4) (rt1 rfl (r_tmp rfl)) (i := 2) rfl ?_
     exact (by have hcc := congrArg (fun (y0 : Int) => (.int .i64 y0 : Value)) hr0; exact hcc)
    ·simp only [Bool.or_eq_false_iff, decide_eq_false_iff_not, Int.not_lt] at hc11
     refine c_skip (q_then (c_seq (c_region ?_)))
     refine o_as rfl rfl ?_
     refine o_nil (q_then (c_ret ?_))
     have hr0 : (0 : Int) = (Clock.check c) := by
      simp only [Clock.check]; grind
     refine q_end0 (v := Vi 0) (rt1 rfl (r_tmp rfl)) (i := 2) rfl ?_
     exact (by have hcc := congrArg (fun (y0 : Int) => (.int .i64 y0 : Value)) hr0; exact hcc)

set_option maxHeartbeats 8000000 in
set_option maxRecDepth 100000 in
theorem owned_ok (c : DClock) (ac_0 : Option Addr) (cc_0 : Nat) (hy1 : c.frames.length ≤ 1000000) : FnX Tryz.prog 58 [.agg #[Vi c.room, Vi c.hand, .slice ac_0 c.frames.length cc_0]] [] (fun w => SlR tFrame (outer w []).S w ac_0 cc_0 c.frames) (Nat × Option Addr × Nat × (Nat → Prop)) (fun p => .pointer (some ⟨p.1, 0, none⟩)) (fun p => [box p.1 [Vi c.room, Vi c.hand, .slice p.2.1 c.frames.length p.2.2.1] 101, own tFrame p.2.2.2 p.2.1 p.2.2.1 c.frames]) := by
 refine fnX (nt := 10) (F0 := [(0, .agg #[Vi c.room, Vi c.hand, .slice ac_0 c.frames.length cc_0])]) Tryz.func58 rfl Tryz.ntmps58 rfl rfl (fun w0 hpre => ?_)
 have hc_0 := hpre
 have hlhc_0 := hc_0.2.1
 refine c_seq (c_region ?_)
 refine o_box (v := .agg #[Vi c.room, Vi c.hand, .slice ac_0 c.frames.length cc_0]) rfl rfl (fun B1 => ?_)
 refine o_as rfl rfl ?_
 refine o_nil (q_then (c_seq (c_region ?_)))
 refine o_p (p_fieldAddr (j' := 2) rfl fo62_2 rfl) ?_
 refine o_p (p_load (i := 0) (v := .slice ac_0 c.frames.length cc_0) rfl rfl sh60 rfl) ?_
 refine o_callM rfl (clone_Frame_ok c.frames ac_0 cc_0 (by first | assumption | omega | (simp only [List.length_append, List.length_take, List.length_drop, List.length_cons, List.length_nil]; omega))) hf92 (fun w hw => (rd_outer (i := 1) rfl hc_0) w hw) rfl (fun _ _ _ _ ha hA => SlO.agree ha hA) ?_
 rintro ⟨a4, c5⟩ S2
 refine o_know (fun w hw => own_len (i := 0) (T := tFrame) hw rfl) (fun hlr6 => ?_)
 refine o_p (p_fieldAddr (j' := 2) rfl fo62_2 rfl) ?_
 refine o_store (i := 1) (v := .slice a4 c.frames.length c5) (cs' := [Vi c.room, Vi c.hand, .slice a4 c.frames.length c5]) rfl rfl rfl sz60 rfl rfl rfl ?_
 refine o_nil (q_then (c_seq (c_region ?_)))
 refine o_p (p_load_agg (i := 1) (vs := [Vi c.room, Vi c.hand, .slice a4 c.frames.length c5]) rfl rfl sh62 rfl rfl) ?_
 refine o_p (p_build (cells := [Vi c.room, Vi c.hand, .slice a4 c.frames.length c5]) fp101 ze101 rfl rfl) ?_
 refine o_box (v := .agg #[Vi c.room, Vi c.hand, .slice a4 c.frames.length c5]) rfl rfl (fun B7 => ?_)
 refine o_as rfl rfl ?_
 refine o_nil (q_then (c_ret ?_))
 refine q_endX (p := (B7, a4, c5, S2)) (rt1 rfl (r_tmp rfl)) ?_ (fun w hw => ?_)
 ·exact rfl
 ·have h2 := hw.pick (H' := [outer w0 [], box B7 [Vi c.room, Vi c.hand, .slice a4 c.frames.length c5] 101, own tFrame S2 a4 c5 c.frames]) [3, 0, 1] (by decide) rfl
  exact Eq.mp (congrArg (fun z => HeapIs w0 ((outer w0 []) :: z) w) (rfl)) h2

set_option maxHeartbeats 8000000 in
set_option maxRecDepth 100000 in
theorem touch_ok (c : DClock) (Bc : Nat) (ac_0 : Option Addr) (cc_0 : Nat) (Sc_0 : Nat → Prop) (key : Int) (hy1 : Clock.Ok c) : FnX Tryz.prog 59 [.pointer (some ⟨Bc, 0, none⟩), Vi key] [box Bc [Vi c.room, Vi c.hand, .slice ac_0 c.frames.length cc_0] 101, own tFrame Sc_0 ac_0 cc_0 c.frames] (fun _ => True) (Option Addr × Nat × (Nat → Prop)) (fun p => .tuple #[.bool ((Clock.touch c key).2.1), Vi ((Clock.touch c key).2.2)]) (fun p => [box Bc [Vi (((Clock.touch c key).1).room), Vi (((Clock.touch c key).1).hand), .slice p.1 (((Clock.touch c key).1).frames).length p.2.1] 101, own tFrame p.2.2 p.1 p.2.1 (((Clock.touch c key).1).frames)]) := by
 refine fnX (nt := 106) (F0 := [(0, .pointer (some ⟨Bc, 0, none⟩)), (1, Vi key)]) Tryz.func59 rfl Tryz.ntmps59 rfl rfl (fun w0 hpre => ?_)
 refine c_know (fun w hw => own_len (i := 2) (T := tFrame) hw rfl) (fun hlown_c_0 => ?_)
 obtain ⟨hcown_c_0, hlown_c_0⟩ := hlown_c_0
 have hroom := hy1.room
 have hlen := hy1.len
 refine c_seq (c_region ?_)
 refine o_box (v := Vi key) rfl rfl (fun B1 => ?_)
 refine o_as rfl rfl ?_
 refine o_as rfl rfl ?_
 refine o_nil (q_then (c_seq (c_seq (c_region ?_))))
 refine o_mv rfl rfl ?_
 refine o_p (p_nilCheck rfl) ?_
 refine o_p (p_fieldAddr (j' := 0) rfl fo101_0 rfl) ?_
 refine o_p (p_fieldAddr (j' := 2) rfl fo62_2 rfl) ?_
 refine o_p (p_load (i := 2) (v := .slice ac_0 c.frames.length cc_0) rfl rfl sh60 rfl) ?_
 refine o_p (p_makeFunc (vs := [.pointer (some ⟨B1, 0, none⟩)]) rfl) ?_
 refine o_call0 (v := Vi (idxF (fun x : DFrame => (x.key == key)) c.frames)) rfl (indexFunc_Frame_ok c.frames ac_0 cc_0 94 [.pointer (some ⟨B1, 0, none⟩)] (fun x => (x.key == key)) (fun w => (box B1 [Vi key] 3).A w) (fun _ _ hb h => box_below hb h) (fun x => touch1_ok x B1 key) hf94) hf93 (fun w hw => ⟨(rd_own (i := 3) rfl) w hw, (hw.at (i := 0) rfl).here⟩) rfl ?_
 refine o_as rfl rfl ?_
 refine o_nil (q_then (c_seq (c_region ?_)))
 refine o_mv rfl rfl ?_
 refine o_p (p_ge rfl rfl) ?_
 refine o_nil (q_then ?_)
 refine c_cond rfl (fun hc2 => ?_) (fun hc2 => ?_)
 ·simp only [decide_eq_true_eq] at hc2
  have hix := idxF_lt (fun x : DFrame => (x.key == key)) c.frames
  refine c_seq (c_region ?_)
  refine o_mv rfl rfl ?_
  refine o_p (p_nilCheck rfl) ?_
  refine o_p (p_fieldAddr (j' := 0) rfl fo101_0 rfl) ?_
  refine o_p (p_fieldAddr (j' := 2) rfl fo62_2 rfl) ?_
  refine o_p (p_load (i := 2) (v := .slice ac_0 c.frames.length cc_0) rfl rfl sh60 rfl) ?_
  refine o_mv rfl rfl ?_
  refine o_p (p_indexAddr (L := c.frames) (T := tFrame) (i := (idxF (fun x : DFrame => (x.key == key)) c.frames)) rfl rfl (rd_own (i := 3) rfl) Tryz.underlying60 sz137 (by omega) (by omega)) ?_
  refine o_p (p_fieldAddrE rfl fo137_1) ?_
  refine o_storeF (j := 1) (i := 3) (T := tFrame) (idx := (idxF (fun x : DFrame => (x.key == key)) c.frames).toNat) (v := .bool true) (vs := [.bool true]) (z := (⟨(c.frames[(idxF (fun x : DFrame => (x.key == key)) c.frames).toNat]).key, true⟩ : DFrame)) (F' := []) rfl rfl rfl rfl (by first | assumption | omega | (simp only [List.length_set]; omega)) sz4 rfl rfl rfl rfl (Sub.nil _) ?_
  refine o_asH (H := [box B1 [Vi key] 3, outer w0 [box Bc [Vi c.room, Vi c.hand, .slice ac_0 c.frames.length cc_0] 101, own tFrame Sc_0 ac_0 cc_0 c.frames], box Bc [Vi c.room, Vi c.hand, .slice ac_0 c.frames.length cc_0] 101, own tFrame Sc_0 ac_0 cc_0 (c.frames.set ((idxF (fun x : DFrame => (x.key == key)) c.frames).toNat) (⟨(c.frames[(idxF (fun x : DFrame => (x.key == key)) c.frames).toNat]).key, true⟩ : DFrame))]) (H' := [box B1 [Vi key] 3, outer w0 [box Bc [Vi c.room, Vi c.hand, .slice ac_0 c.frames.length cc_0] 101, own tFrame Sc_0 ac_0 cc_0 c.frames], box Bc [Vi c.room, Vi c.hand, .slice ac_0 (c.frames.set ((idxF (fun x : DFrame => (x.key == key)) c.frames).toNat) (⟨(c.frames[(idxF (fun x : DFrame => (x.key == key)) c.frames).toNat]).key, true⟩ : DFrame)).length cc_0] 101, own tFrame Sc_0 ac_0 cc_0 (c.frames.set ((idxF (fun x : DFrame => (x.key == key)) c.frames).toNat) (⟨(c.frames[(idxF (fun x : DFrame => (x.key == key)) c.frames).toNat]).key, true⟩ : DFrame))]) (by simp only [List.length_set]) ?_
  refine o_nil (q_then (c_seq (c_region ?_)))
  refine o_as rfl rfl ?_
  refine o_as rfl rfl ?_
  refine o_nil (q_then (c_ret ?_))
  refine q_then_ret ?_
  first
   | have ht := Clock.touch_hit (c := c) (key := key) (by assumption)
   | have ht := Clock.touch_room (c := c) (key := key) (by omega) (by omega)
   | have ht := Clock.touch_evict (key := key) hI (by omega) (by omega) hhl (by assumption)
  have hr0 : (c.room : Int) = ((Clock.touch c key).1).room := by
   simp only [ht, List.length_set]
  have hr1 : (c.hand : Int) = ((Clock.touch c key).1).hand := by
   simp only [ht, List.length_set]
  have hr2 : ((c.frames.set ((idxF (fun x : DFrame => (x.key == key)) c.frames).toNat) (⟨(c.frames[(idxF (fun x : DFrame => (x.key == key)) c.frames).toNat]).key, true⟩ : DFrame)) : List DFrame) = ((Clock.touch c key).1).frames := by
   simp only [ht, List.length_set]
  have hr3 : (true : Bool) = ((Clock.touch c key).2.1) := by
   simp only [ht, List.length_set]
  have hr4 : ((-1) : Int) = ((Clock.touch c key).2.2) := by
   simp only [ht, List.length_set]
  refine q_endX (p := (ac_0, cc_0, Sc_0)) (rt2 rfl (r_tmp rfl) (r_tmp rfl)) ?_ (fun w hw => ?_)
  ·exact (by have hcc := congr (congr (congr (congr (congrArg (fun (y0 : Int) (y1 : Int) (y2 : List DFrame) (y3 : Bool) (y4 : Int) => (.tuple #[.bool y3, .int .i64 y4] : Value)) hr0) hr1) hr2) hr3) hr4; exact hcc)
  ·have h2 := hw.pick (H' := [outer w0 [box Bc [Vi c.room, Vi c.hand, .slice ac_0 c.frames.length cc_0] 101, own tFrame Sc_0 ac_0 cc_0 c.frames], box Bc [Vi c.room, Vi c.hand, .slice ac_0 (c.frames.set ((idxF (fun x : DFrame => (x.key == key)) c.frames).toNat) (⟨(c.frames[(idxF (fun x : DFrame => (x.key == key)) c.frames).toNat]).key, true⟩ : DFrame)).length cc_0] 101, own tFrame Sc_0 ac_0 cc_0 (c.frames.set ((idxF (fun x : DFrame => (x.key == key)) c.frames).toNat) (⟨(c.frames[(idxF (fun x : DFrame => (x.key == key)) c.frames).toNat]).key, true⟩ : DFrame))]) [1, 2, 3] (by decide) rfl
   exact Eq.mp (congrArg (fun z => HeapIs w0 ((outer w0 [box Bc [Vi c.room, Vi c.hand, .slice ac_0 c.frames.length cc_0] 101, own tFrame Sc_0 ac_0 cc_0 c.frames]) :: z) w) ((by have hcc := congr (congr (congr (congr (congrArg (fun (y0 : Int) (y1 : Int) (y2 : List DFrame) (y3 : Bool) (y4 : Int) => ([box Bc [.int .i64 y0, .int .i64 y1, .slice ac_0 y2.length cc_0] 101, own tFrame Sc_0 ac_0 cc_0 y2] : List Ent)) hr0) hr1) hr2) hr3) hr4; exact hcc))) h2
 ·simp only [decide_eq_false_iff_not, Int.not_le] at hc2
  refine c_skip (q_then (c_seq (c_seq ?_)))
  refine c_draw hmix (by kernel_rfl) ?_
  refine w_mv rfl rfl ?_
  refine w_p (p_nilCheck rfl) ?_
  refine w_p (p_fieldAddr (j' := 0) rfl fo101_0 rfl) ?_
  refine w_p (p_fieldAddr (j' := 2) rfl fo62_2 rfl) ?_
  refine w_p (p_load (i := 2) (v := .slice ac_0 c.frames.length cc_0) rfl rfl sh60 rfl) ?_
  refine w_p (p_len_slice rfl rfl Tryz.underlying60) ?_
  refine w_mv rfl rfl ?_
  refine w_p (p_nilCheck rfl) ?_
  refine w_p (p_fieldAddr (j' := 0) rfl fo101_0 rfl) ?_
  refine w_p (p_fieldAddr (j' := 0) rfl fo62_0 rfl) ?_
  refine w_p (p_load (i := 2) (v := Vi c.room) rfl rfl sh3 rfl) ?_
  refine w_p (p_lt rfl rfl) ?_
  refine w_nil (q_then ?_)
  refine c_cond rfl (fun hc3 => ?_) (fun hc3 => ?_)
  ·simp only [decide_eq_true_eq] at hc3
   refine c_seq ?_
   refine c_cut (G := (Nat → Prop) × Option Addr × Option Addr × Nat × (Nat → Prop)) (fun ⟨S4_8, a4_8, a4_9, c4_9, S4_9⟩ => []) (fun ⟨S4_8, a4_8, a4_9, c4_9, S4_9⟩ => [own tFrame S4_8 a4_8 ([(⟨key, false⟩ : DFrame)].length) ([(⟨key, false⟩ : DFrame)]), box B1 [Vi key] 3, outer w0 [box Bc [Vi c.room, Vi c.hand, .slice ac_0 c.frames.length cc_0] 101, own tFrame Sc_0 ac_0 cc_0 c.frames], box Bc [Vi c.room, Vi c.hand, .slice a4_9 (c.frames ++ [(⟨key, false⟩ : DFrame)]).length c4_9] 101, own tFrame S4_9 a4_9 c4_9 (c.frames ++ [(⟨key, false⟩ : DFrame)])]) (fun K hK5 => ?_) ?_
   ·refine c_held hmix [box B1 [Vi key] 3, outer w0 [box Bc [Vi c.room, Vi c.hand, .slice ac_0 c.frames.length cc_0] 101, own tFrame Sc_0 ac_0 cc_0 c.frames]] rfl rfl ?_
    refine h_tk (i := 0) (ls := #[T1,F0,F0,F0,F0,F0,F0,F0,F0,F0,F0,F0,F0,F0]) rfl (p_move rfl) (dp (lj (lj (lz (lz (ln)))))) ?_
    refine h_tk (i := 1) (ls := #[T1,T1,F0,F0,F0,F0,F0,F0,F0,F0,F0,F0,F0,F0]) rfl (p_move rfl) (dp (lj (lj (lz (lz (ln)))))) ?_
    refine h_tk (i := 2) (ls := #[T1,T1,T1,F0,F0,F0,F0,F0,F0,F0,F0,F0,F0,F0]) rfl (p_nilCheck rfl) (dp (lj (lj (lz (lz (ln)))))) ?_
    refine h_tk (i := 3) (ls := #[T1,T1,T1,T1,F0,F0,F0,F0,F0,F0,F0,F0,F0,F0]) rfl (p_fieldAddr (j' := 0) rfl fo101_0 rfl) (dp (lj (lj (lz (lz (ln)))))) ?_
    refine h_tk (i := 4) (ls := #[T1,T1,T1,T1,T1,F0,F0,F0,F0,F0,F0,F0,F0,F0]) rfl (p_fieldAddr (j' := 2) rfl fo62_2 rfl) (dp (lj (lj (lz (lz (ln)))))) ?_
    refine h_tk (i := 6) (ls := #[T1,T1,T1,T1,T1,F0,T1,F0,F0,F0,F0,F0,F0,F0]) rfl (p_load (i := 0) (v := Vi key) rfl rfl sh3 rfl) (dp (lj (lj (lz (lz (ln)))))) ?_
    refine h_tk (i := 7) (ls := #[T1,T1,T1,T1,T1,F0,T1,T1,F0,F0,F0,F0,F0,F0]) rfl (p_build (cells := [Vi key, .bool false]) fp137 ze137 rfl rfl) (dp (lj (lj (lz (lz (ln)))))) ?_
    refine h_two (i := 5) (j := 8) (ls := #[T1,T1,T1,T1,T1,T1,T1,T1,F0,F0,F0,F0,F0,F0]) (ls' := #[T1,T1,T1,T1,T1,F0,T1,T1,T1,F0,F0,F0,F0,F0]) (by kernel_rfl) rfl rfl rfl rfl ?_ ?_
    ·refine o_p (p_load (i := 2) (v := .slice ac_0 c.frames.length cc_0) rfl rfl sh60 rfl) ?_
     refine o_nil ?_
     refine h_next (dp (lj (lj (lz (lz (ln)))))) ?_
     refine h_one (i := 8) (ls := #[T1,T1,T1,T1,T1,T1,T1,T1,T1,F0,F0,F0,F0,F0]) (by kernel_rfl) rfl rfl ?_
     refine o_buildSlice (m := 1) (T := tFrame) (L := [(⟨key, false⟩ : DFrame)]) (vs := [.agg #[Vi key, .bool false]]) rfl rfl rfl rfl Tryz.underlying60 sz137 (by decide) ze137 rfl (by decide) rfl (fun S4_8 a4_8 => ?_)
     refine o_nil ?_
     refine h_next (dp (lz (lj (lj (lz (lz (ln))))))) ?_
     refine h_one (i := 9) (ls := #[T1,T1,T1,T1,T1,T1,T1,T1,T1,T1,F0,F0,F0,F0]) (by kernel_rfl) rfl rfl ?_
     refine o_append (i := 4) (L := c.frames) (M := [(⟨key, false⟩ : DFrame)]) (T := tFrame) rfl rfl rfl (rd_own (i := 0) rfl) Tryz.underlying60 Tryz.underlying60 (by intro k h; cases h) el137 (by intro z; simp [tFrame, one1]) (by decide) (by first | omega | (simp only [List.length_cons, List.length_nil]; omega) | (simp only [List.length_append, List.length_cons, List.length_nil, List.length_take, List.length_drop]; omega)) rfl (fun a4_9 c4_9 S4_9 => ?_)
     refine o_nil ?_
     refine h_next (dp (lz (lj (lj (lz (lz (ln))))))) ?_
     refine h_tk (i := 10) (ls := #[T1,T1,T1,T1,T1,T1,T1,T1,T1,T1,T1,F0,F0,F0]) rfl (p_nilCheck rfl) (dp (lz (lj (lj (lz (lz (ln))))))) ?_
     refine h_tk (i := 11) (ls := #[T1,T1,T1,T1,T1,T1,T1,T1,T1,T1,T1,T1,F0,F0]) rfl (p_fieldAddr (j' := 0) rfl fo101_0 rfl) (dp (lz (lj (lj (lz (lz (ln))))))) ?_
     refine h_tk (i := 12) (ls := #[T1,T1,T1,T1,T1,T1,T1,T1,T1,T1,T1,T1,T1,F0]) rfl (p_fieldAddr (j' := 2) rfl fo62_2 rfl) (dp (lz (lj (lj (lz (lz (ln))))))) ?_
     refine h_one (i := 13) (ls := #[T1,T1,T1,T1,T1,T1,T1,T1,T1,T1,T1,T1,T1,T1]) (by kernel_rfl) rfl rfl ?_
     refine o_store (i := 3) (v := .slice a4_9 (c.frames ++ [(⟨key, false⟩ : DFrame)]).length c4_9) (cs' := [Vi c.room, Vi c.hand, .slice a4_9 (c.frames ++ [(⟨key, false⟩ : DFrame)]).length c4_9]) rfl rfl rfl sz60 rfl rfl rfl ?_
     refine o_nil ?_
     refine h_next (dp (lz (lj (lj (lz (lz (ln))))))) ?_
     refine h_done (by kernel_rfl) ?_
     refine q_kont hK5 (S4_8, a4_8, a4_9, c4_9, S4_9) (Sub.nil _) (pk [0, 1, 2, 3, 4])
    ·refine o_buildSlice (m := 1) (T := tFrame) (L := [(⟨key, false⟩ : DFrame)]) (vs := [.agg #[Vi key, .bool false]]) rfl rfl rfl rfl Tryz.underlying60 sz137 (by decide) ze137 rfl (by decide) rfl (fun S4_8 a4_8 => ?_)
     refine o_nil ?_
     refine h_next (dp (lz (lj (lj (lz (lz (ln))))))) ?_
     refine h_one (i := 5) (ls := #[T1,T1,T1,T1,T1,T1,T1,T1,T1,F0,F0,F0,F0,F0]) (by kernel_rfl) rfl rfl ?_
     refine o_p (p_load (i := 3) (v := .slice ac_0 c.frames.length cc_0) rfl rfl sh60 rfl) ?_
     refine o_nil ?_
     refine h_next (dp (lz (lj (lj (lz (lz (ln))))))) ?_
     refine h_one (i := 9) (ls := #[T1,T1,T1,T1,T1,T1,T1,T1,T1,T1,F0,F0,F0,F0]) (by kernel_rfl) rfl rfl ?_
     refine o_append (i := 4) (L := c.frames) (M := [(⟨key, false⟩ : DFrame)]) (T := tFrame) rfl rfl rfl (rd_own (i := 0) rfl) Tryz.underlying60 Tryz.underlying60 (by intro k h; cases h) el137 (by intro z; simp [tFrame, one1]) (by decide) (by first | omega | (simp only [List.length_cons, List.length_nil]; omega) | (simp only [List.length_append, List.length_cons, List.length_nil, List.length_take, List.length_drop]; omega)) rfl (fun a4_9 c4_9 S4_9 => ?_)
     refine o_nil ?_
     refine h_next (dp (lz (lj (lj (lz (lz (ln))))))) ?_
     refine h_tk (i := 10) (ls := #[T1,T1,T1,T1,T1,T1,T1,T1,T1,T1,T1,F0,F0,F0]) rfl (p_nilCheck rfl) (dp (lz (lj (lj (lz (lz (ln))))))) ?_
     refine h_tk (i := 11) (ls := #[T1,T1,T1,T1,T1,T1,T1,T1,T1,T1,T1,T1,F0,F0]) rfl (p_fieldAddr (j' := 0) rfl fo101_0 rfl) (dp (lz (lj (lj (lz (lz (ln))))))) ?_
     refine h_tk (i := 12) (ls := #[T1,T1,T1,T1,T1,T1,T1,T1,T1,T1,T1,T1,T1,F0]) rfl (p_fieldAddr (j' := 2) rfl fo62_2 rfl) (dp (lz (lj (lj (lz (lz (ln))))))) ?_
     refine h_one (i := 13) (ls := #[T1,T1,T1,T1,T1,T1,T1,T1,T1,T1,T1,T1,T1,T1]) (by kernel_rfl) rfl rfl ?_
     refine o_store (i := 3) (v := .slice a4_9 (c.frames ++ [(⟨key, false⟩ : DFrame)]).length c4_9) (cs' := [Vi c.room, Vi c.hand, .slice a4_9 (c.frames ++ [(⟨key, false⟩ : DFrame)]).length c4_9]) rfl rfl rfl sz60 rfl rfl rfl ?_
     refine o_nil ?_
     refine h_next (dp (lz (lj (lj (lz (lz (ln))))))) ?_
     refine h_done (by kernel_rfl) ?_
     refine q_kont hK5 (S4_8, a4_8, a4_9, c4_9, S4_9) (Sub.nil _) (pk [0, 1, 2, 3, 4])
   rintro ⟨S4_8, a4_8, a4_9, c4_9, S4_9⟩
   show SQ _ 106 w0 _ _ [] [own tFrame S4_8 a4_8 ([(⟨key, false⟩ : DFrame)].length) ([(⟨key, false⟩ : DFrame)]), box B1 [Vi key] 3, outer w0 [box Bc [Vi c.room, Vi c.hand, .slice ac_0 c.frames.length cc_0] 101, own tFrame Sc_0 ac_0 cc_0 c.frames], box Bc [Vi c.room, Vi c.hand, .slice a4_9 (c.frames ++ [(⟨key, false⟩ : DFrame)]).length c4_9] 101, own tFrame S4_9 a4_9 c4_9 (c.frames ++ [(⟨key, false⟩ : DFrame)])]
   refine q_cast (F' := []) (H := [own tFrame S4_8 a4_8 ([(⟨key, false⟩ : DFrame)].length) ([(⟨key, false⟩ : DFrame)]), box B1 [Vi key] 3, outer w0 [box Bc [Vi c.room, Vi c.hand, .slice ac_0 c.frames.length cc_0] 101, own tFrame Sc_0 ac_0 cc_0 c.frames], box Bc [Vi c.room, Vi c.hand, .slice a4_9 (c.frames ++ [(⟨key, false⟩ : DFrame)]).length c4_9] 101, own tFrame S4_9 a4_9 c4_9 (c.frames ++ [(⟨key, false⟩ : DFrame)])]) (H' := [own tFrame S4_8 a4_8 ([(⟨key, false⟩ : DFrame)].length) ([(⟨key, false⟩ : DFrame)]), box B1 [Vi key] 3, outer w0 [box Bc [Vi c.room, Vi c.hand, .slice ac_0 c.frames.length cc_0] 101, own tFrame Sc_0 ac_0 cc_0 c.frames], box Bc [Vi c.room, Vi c.hand, .slice a4_9 (c.frames ++ [(⟨key, false⟩ : DFrame)]).length c4_9] 101, own tFrame S4_9 a4_9 c4_9 (c.frames ++ [(⟨key, false⟩ : DFrame)])]) (Sub.nil _) (by rfl) ?_
   refine q_then (c_seq (c_region ?_))
   refine o_as rfl rfl ?_
   refine o_as rfl rfl ?_
   refine o_nil (q_then (c_ret ?_))
   refine q_then_ret ?_
   first
    | have ht := Clock.touch_hit (c := c) (key := key) (by assumption)
    | have ht := Clock.touch_room (c := c) (key := key) (by omega) (by omega)
    | have ht := Clock.touch_evict (key := key) hI (by omega) (by omega) hhl (by assumption)
   have hr0 : (c.room : Int) = ((Clock.touch c key).1).room := by
    simp only [ht, List.length_set]
   have hr1 : (c.hand : Int) = ((Clock.touch c key).1).hand := by
    simp only [ht, List.length_set]
   have hr2 : ((c.frames ++ [(⟨key, false⟩ : DFrame)]) : List DFrame) = ((Clock.touch c key).1).frames := by
    simp only [ht, List.length_set]
   have hr3 : (false : Bool) = ((Clock.touch c key).2.1) := by
    simp only [ht, List.length_set]
   have hr4 : ((-1) : Int) = ((Clock.touch c key).2.2) := by
    simp only [ht, List.length_set]
   refine q_endX (p := (a4_9, c4_9, S4_9)) (rt2 rfl (r_tmp rfl) (r_tmp rfl)) ?_ (fun w hw => ?_)
   ·exact (by have hcc := congr (congr (congr (congr (congrArg (fun (y0 : Int) (y1 : Int) (y2 : List DFrame) (y3 : Bool) (y4 : Int) => (.tuple #[.bool y3, .int .i64 y4] : Value)) hr0) hr1) hr2) hr3) hr4; exact hcc)
   ·have h2 := hw.pick (H' := [outer w0 [box Bc [Vi c.room, Vi c.hand, .slice ac_0 c.frames.length cc_0] 101, own tFrame Sc_0 ac_0 cc_0 c.frames], box Bc [Vi c.room, Vi c.hand, .slice a4_9 (c.frames ++ [(⟨key, false⟩ : DFrame)]).length c4_9] 101, own tFrame S4_9 a4_9 c4_9 (c.frames ++ [(⟨key, false⟩ : DFrame)])]) [2, 3, 4] (by decide) rfl
    exact Eq.mp (congrArg (fun z => HeapIs w0 ((outer w0 [box Bc [Vi c.room, Vi c.hand, .slice ac_0 c.frames.length cc_0] 101, own tFrame Sc_0 ac_0 cc_0 c.frames]) :: z) w) ((by have hcc := congr (congr (congr (congr (congrArg (fun (y0 : Int) (y1 : Int) (y2 : List DFrame) (y3 : Bool) (y4 : Int) => ([box Bc [.int .i64 y0, .int .i64 y1, .slice a4_9 y2.length c4_9] 101, own tFrame S4_9 a4_9 c4_9 y2] : List Ent)) hr0) hr1) hr2) hr3) hr4; exact hcc))) h2
  ·simp only [decide_eq_false_iff_not, Int.not_lt] at hc3
   refine c_skip (q_then (c_seq (c_block ?_)))
   refine c_loop (St := DClock × Option Addr × Nat × (Nat → Prop))
    (fun ⟨cc, acc_0, ccc_0, Scc_0⟩ => [(0, .pointer (some ⟨Bc, 0, none⟩)), (3, .pointer (some ⟨B1, 0, none⟩))])
    (fun ⟨cc, acc_0, ccc_0, Scc_0⟩ => [box B1 [Vi key] 3, outer w0 [box Bc [Vi c.room, Vi c.hand, .slice ac_0 c.frames.length cc_0] 101, own tFrame Sc_0 ac_0 cc_0 c.frames], box Bc [Vi cc.room, Vi cc.hand, .slice acc_0 cc.frames.length ccc_0] 101, own tFrame Scc_0 acc_0 ccc_0 cc.frames])
    (fun ⟨cc, acc_0, ccc_0, Scc_0⟩ => Clock.SInv c cc)
    (fun ⟨cc, acc_0, ccc_0, Scc_0⟩ => Clock.usedOf cc.frames)
    (c, ac_0, cc_0, Sc_0) ?_ (sr (sr (Sub.nil _))) (fun _ hw => hw) ?_
   ·exact Clock.SInv.start hy1 (by omega)
   rintro ⟨cc, acc_0, ccc_0, Scc_0⟩ hI K hK6
   have hh0 := hI.h0
   have hh1 := hI.h1
   have hsm := hI.small
   have hle := hI.len
   have hhl : cc.hand.toNat < cc.frames.length := by omega
   show SC _ _ Tryz.prog 106 w0 _ _ [(0, .pointer (some ⟨Bc, 0, none⟩)), (3, .pointer (some ⟨B1, 0, none⟩))] [box B1 [Vi key] 3, outer w0 [box Bc [Vi c.room, Vi c.hand, .slice ac_0 c.frames.length cc_0] 101, own tFrame Sc_0 ac_0 cc_0 c.frames], box Bc [Vi cc.room, Vi cc.hand, .slice acc_0 cc.frames.length ccc_0] 101, own tFrame Scc_0 acc_0 ccc_0 cc.frames]
   refine c_seq (c_seq ?_)
   refine c_draw hmix (by kernel_rfl) ?_
   refine w_mv rfl rfl ?_
   refine w_p (p_nilCheck rfl) ?_
   refine w_p (p_fieldAddr (j' := 0) rfl fo101_0 rfl) ?_
   refine w_p (p_fieldAddr (j' := 2) rfl fo62_2 rfl) ?_
   refine w_p (p_load (i := 2) (v := .slice acc_0 cc.frames.length ccc_0) rfl rfl sh60 rfl) ?_
   refine w_mv rfl rfl ?_
   refine w_p (p_nilCheck rfl) ?_
   refine w_p (p_fieldAddr (j' := 0) rfl fo101_0 rfl) ?_
   refine w_p (p_fieldAddr (j' := 1) rfl fo62_1 rfl) ?_
   refine w_p (p_load (i := 2) (v := Vi cc.hand) rfl rfl sh3 rfl) ?_
   refine w_p (p_indexAddr (L := cc.frames) (T := tFrame) (i := cc.hand) rfl rfl (rd_own (i := 3) rfl) Tryz.underlying60 sz137 (by omega) (by omega)) ?_
   refine w_p (p_fieldAddrE rfl fo137_1) ?_
   refine w_p (p_loadF (i := cc.hand.toNat) (j := 1) (T := tFrame) (L := cc.frames) (v := .bool ((cc.frames[cc.hand.toNat]).used)) rfl (rd_own (i := 3) rfl) (by first | assumption | omega) sh4 rfl) ?_
   refine w_nil (q_then ?_)
   refine c_cond rfl (fun hc7 => ?_) (fun hc7 => ?_)
   ·skip
    refine c_skip (q_then (c_block (c_seq ?_)))
    refine c_held hmix [box B1 [Vi key] 3, outer w0 [box Bc [Vi c.room, Vi c.hand, .slice ac_0 c.frames.length cc_0] 101, own tFrame Sc_0 ac_0 cc_0 c.frames], box Bc [Vi cc.room, Vi cc.hand, .slice acc_0 cc.frames.length ccc_0] 101, ownE tFrame Scc_0 acc_0 ccc_0 (cc.frames.length)] rfl rfl ?_
    refine h_tk (i := 0) (ls := #[T1,F0,F0,F0,F0,F0,F0,F0,F0,F0,F0,F0,F0]) rfl (p_move rfl) (fun _ hw => HeapIs.drop (HeapIs.toE (i := 3) (m := cc.frames.length) (T := tFrame) rfl (by simp only [List.length_set]) hw) (lr)) ?_
    refine h_tk (i := 1) (ls := #[T1,T1,F0,F0,F0,F0,F0,F0,F0,F0,F0,F0,F0]) rfl (p_nilCheck rfl) (fun _ hw => HeapIs.drop (HeapIs.toE (i := 3) (m := cc.frames.length) (T := tFrame) rfl (by simp only [List.length_set]) hw) (lr)) ?_
    refine h_tk (i := 2) (ls := #[T1,T1,T1,F0,F0,F0,F0,F0,F0,F0,F0,F0,F0]) rfl (p_fieldAddr (j' := 0) rfl fo101_0 rfl) (fun _ hw => HeapIs.drop (HeapIs.toE (i := 3) (m := cc.frames.length) (T := tFrame) rfl (by simp only [List.length_set]) hw) (lr)) ?_
    refine h_tk (i := 3) (ls := #[T1,T1,T1,T1,F0,F0,F0,F0,F0,F0,F0,F0,F0]) rfl (p_fieldAddr (j' := 2) rfl fo62_2 rfl) (fun _ hw => HeapIs.drop (HeapIs.toE (i := 3) (m := cc.frames.length) (T := tFrame) rfl (by simp only [List.length_set]) hw) (lr)) ?_
    refine h_tk (i := 4) (ls := #[T1,T1,T1,T1,T1,F0,F0,F0,F0,F0,F0,F0,F0]) rfl (p_load (i := 2) (v := .slice acc_0 cc.frames.length ccc_0) rfl rfl sh60 rfl) (fun _ hw => HeapIs.drop (HeapIs.toE (i := 3) (m := cc.frames.length) (T := tFrame) rfl (by simp only [List.length_set]) hw) (lr)) ?_
    refine h_tk (i := 5) (ls := #[T1,T1,T1,T1,T1,T1,F0,F0,F0,F0,F0,F0,F0]) rfl (p_move rfl) (fun _ hw => HeapIs.drop (HeapIs.toE (i := 3) (m := cc.frames.length) (T := tFrame) rfl (by simp only [List.length_set]) hw) (lr)) ?_
    refine h_tk (i := 6) (ls := #[T1,T1,T1,T1,T1,T1,T1,F0,F0,F0,F0,F0,F0]) rfl (p_nilCheck rfl) (fun _ hw => HeapIs.drop (HeapIs.toE (i := 3) (m := cc.frames.length) (T := tFrame) rfl (by simp only [List.length_set]) hw) (lr)) ?_
    refine h_tk (i := 7) (ls := #[T1,T1,T1,T1,T1,T1,T1,T1,F0,F0,F0,F0,F0]) rfl (p_fieldAddr (j' := 0) rfl fo101_0 rfl) (fun _ hw => HeapIs.drop (HeapIs.toE (i := 3) (m := cc.frames.length) (T := tFrame) rfl (by simp only [List.length_set]) hw) (lr)) ?_
    refine h_tk (i := 8) (ls := #[T1,T1,T1,T1,T1,T1,T1,T1,T1,F0,F0,F0,F0]) rfl (p_fieldAddr (j' := 1) rfl fo62_1 rfl) (fun _ hw => HeapIs.drop (HeapIs.toE (i := 3) (m := cc.frames.length) (T := tFrame) rfl (by simp only [List.length_set]) hw) (lr)) ?_
    refine h_tk (i := 9) (ls := #[T1,T1,T1,T1,T1,T1,T1,T1,T1,T1,F0,F0,F0]) rfl (p_load (i := 2) (v := Vi cc.hand) rfl rfl sh3 rfl) (fun _ hw => HeapIs.drop (HeapIs.toE (i := 3) (m := cc.frames.length) (T := tFrame) rfl (by simp only [List.length_set]) hw) (lr)) ?_
    refine h_tk (i := 10) (ls := #[T1,T1,T1,T1,T1,T1,T1,T1,T1,T1,T1,F0,F0]) rfl (p_indexAddrE (T := tFrame) (i := cc.hand) (j := 3) rfl rfl rfl Tryz.underlying60 sz137 (by omega) (by omega)) (fun _ hw => HeapIs.drop (HeapIs.toE (i := 3) (m := cc.frames.length) (T := tFrame) rfl (by simp only [List.length_set]) hw) (lr)) ?_
    refine h_tk (i := 11) (ls := #[T1,T1,T1,T1,T1,T1,T1,T1,T1,T1,T1,T1,F0]) rfl (p_fieldAddrE rfl fo137_1) (fun _ hw => HeapIs.drop (HeapIs.toE (i := 3) (m := cc.frames.length) (T := tFrame) rfl (by simp only [List.length_set]) hw) (lr)) ?_
    refine h_one (i := 12) (ls := #[T1,T1,T1,T1,T1,T1,T1,T1,T1,T1,T1,T1,T1]) (by kernel_rfl) rfl rfl ?_
    refine o_storeF (j := 1) (i := 3) (T := tFrame) (idx := cc.hand.toNat) (v := .bool false) (vs := [.bool false]) (z := (⟨(cc.frames[cc.hand.toNat]).key, false⟩ : DFrame)) rfl rfl rfl rfl (by first | assumption | omega | (simp only [List.length_set]; omega)) sz4 rfl rfl rfl rfl (Sub.refl _) ?_
    refine o_nil ?_
    refine h_next (fun _ hw => HeapIs.drop (HeapIs.toE (i := 3) (m := cc.frames.length) (T := tFrame) rfl (by simp only [List.length_set]) hw) (lr)) ?_
    refine h_done (by kernel_rfl) ?_
    refine q_cast (F' := [(0, .pointer (some ⟨Bc, 0, none⟩)), (3, .pointer (some ⟨B1, 0, none⟩))]) (H := [box B1 [Vi key] 3, outer w0 [box Bc [Vi c.room, Vi c.hand, .slice ac_0 c.frames.length cc_0] 101, own tFrame Sc_0 ac_0 cc_0 c.frames], box Bc [Vi cc.room, Vi cc.hand, .slice acc_0 cc.frames.length ccc_0] 101, own tFrame Scc_0 acc_0 ccc_0 (cc.frames.set cc.hand.toNat (⟨(cc.frames[cc.hand.toNat]).key, false⟩ : DFrame))]) (H' := [box B1 [Vi key] 3, outer w0 [box Bc [Vi c.room, Vi c.hand, .slice ac_0 c.frames.length cc_0] 101, own tFrame Sc_0 ac_0 cc_0 c.frames], box Bc [Vi cc.room, Vi cc.hand, .slice acc_0 (cc.frames.set cc.hand.toNat (⟨(cc.frames[cc.hand.toNat]).key, false⟩ : DFrame)).length ccc_0] 101, own tFrame Scc_0 acc_0 ccc_0 (cc.frames.set cc.hand.toNat (⟨(cc.frames[cc.hand.toNat]).key, false⟩ : DFrame))]) (sr (sr (Sub.nil _))) (by simp only [List.length_set, List.length_reverse]) ?_
    refine q_then (c_region ?_)
    refine o_mv rfl rfl ?_
    refine o_pick (H' := [box Bc [Vi cc.room, Vi cc.hand, .slice acc_0 (cc.frames.set cc.hand.toNat (⟨(cc.frames[cc.hand.toNat]).key, false⟩ : DFrame)).length ccc_0] 101, own tFrame Scc_0 acc_0 ccc_0 (cc.frames.set cc.hand.toNat (⟨(cc.frames[cc.hand.toNat]).key, false⟩ : DFrame)), box B1 [Vi key] 3, outer w0 [box Bc [Vi c.room, Vi c.hand, .slice ac_0 c.frames.length cc_0] 101, own tFrame Sc_0 ac_0 cc_0 c.frames]]) [2, 3, 0, 1] (by decide) rfl ?_
    refine o_callX (pre := [box Bc [Vi cc.room, Vi cc.hand, .slice acc_0 (cc.frames.set cc.hand.toNat (⟨(cc.frames[cc.hand.toNat]).key, false⟩ : DFrame)).length ccc_0] 101, own tFrame Scc_0 acc_0 ccc_0 (cc.frames.set cc.hand.toNat (⟨(cc.frames[cc.hand.toNat]).key, false⟩ : DFrame))]) (R := [box B1 [Vi key] 3, outer w0 [box Bc [Vi c.room, Vi c.hand, .slice ac_0 c.frames.length cc_0] 101, own tFrame Sc_0 ac_0 cc_0 c.frames]]) rfl (step_ok (⟨cc.room, cc.hand, (cc.frames.set cc.hand.toNat (⟨(cc.frames[cc.hand.toNat]).key, false⟩ : DFrame))⟩ : DClock) Bc acc_0 ccc_0 Scc_0 (by (try dsimp only); (try simp only [List.length_set]); omega)) hf95 rfl (fun _ _ => trivial) rfl ?_
    rintro ⟨a9, c10, S11⟩
    refine o_asH (H' := [box Bc [Vi cc.room, Vi ((cc.hand + 1).tmod ((cc.frames.set cc.hand.toNat (⟨(cc.frames[cc.hand.toNat]).key, false⟩ : DFrame)).length : Int)), .slice a9 (cc.frames.set cc.hand.toNat (⟨(cc.frames[cc.hand.toNat]).key, false⟩ : DFrame)).length c10] 101, own tFrame S11 a9 c10 (cc.frames.set cc.hand.toNat (⟨(cc.frames[cc.hand.toNat]).key, false⟩ : DFrame)), box B1 [Vi key] 3, outer w0 [box Bc [Vi c.room, Vi c.hand, .slice ac_0 c.frames.length cc_0] 101, own tFrame Sc_0 ac_0 cc_0 c.frames]]) rfl ?_
    refine o_nil ?_
    refine q_block_normal ?_
    refine q_round hK6 ((⟨cc.room, (cc.hand + 1).tmod ((cc.frames.set cc.hand.toNat (⟨(cc.frames[cc.hand.toNat]).key, false⟩ : DFrame)).length : Int), (cc.frames.set cc.hand.toNat (⟨(cc.frames[cc.hand.toNat]).key, false⟩ : DFrame))⟩ : DClock), a9, c10, S11) ?_ ?_ ?_ ?_
    ·clear hK6
     exact (hI.next hhl (by assumption)).1
    ·exact (hI.next hhl (by assumption)).2
    ·exact sr (sr (Sub.nil _))
    ·exact pk [2, 3, 0, 1]
   ·skip
    refine c_exit ?_
    refine q_then_exit (q_then_exit (q_block_exit (q_then ?_)))
    refine c_seq ?_
    refine c_draw hmix (by kernel_rfl) ?_
    refine w_mv rfl rfl ?_
    refine w_p (p_nilCheck rfl) ?_
    refine w_p (p_fieldAddr (j' := 0) rfl fo101_0 rfl) ?_
    refine w_p (p_fieldAddr (j' := 2) rfl fo62_2 rfl) ?_
    refine w_p (p_load (i := 2) (v := .slice acc_0 cc.frames.length ccc_0) rfl rfl sh60 rfl) ?_
    refine w_mv rfl rfl ?_
    refine w_p (p_nilCheck rfl) ?_
    refine w_p (p_fieldAddr (j' := 0) rfl fo101_0 rfl) ?_
    refine w_p (p_fieldAddr (j' := 1) rfl fo62_1 rfl) ?_
    refine w_p (p_load (i := 2) (v := Vi cc.hand) rfl rfl sh3 rfl) ?_
    refine w_p (p_indexAddr (L := cc.frames) (T := tFrame) (i := cc.hand) rfl rfl (rd_own (i := 3) rfl) Tryz.underlying60 sz137 (by omega) (by omega)) ?_
    refine w_p (p_fieldAddrE rfl fo137_0) ?_
    refine w_p (p_loadF (i := cc.hand.toNat) (j := 0) (T := tFrame) (L := cc.frames) (v := Vi ((cc.frames[cc.hand.toNat]).key)) rfl (rd_own (i := 3) rfl) (by first | assumption | omega) sh3 rfl) ?_
    refine w_p (p_assign rfl) ?_
    refine w_nil (q_then (c_seq ?_))
    refine c_held hmix [box B1 [Vi key] 3, outer w0 [box Bc [Vi c.room, Vi c.hand, .slice ac_0 c.frames.length cc_0] 101, own tFrame Sc_0 ac_0 cc_0 c.frames], box Bc [Vi cc.room, Vi cc.hand, .slice acc_0 cc.frames.length ccc_0] 101, ownE tFrame Scc_0 acc_0 ccc_0 (cc.frames.length)] rfl rfl ?_
    refine h_tk (i := 0) (ls := #[T1,F0,F0,F0,F0,F0,F0,F0,F0,F0,F0,F0,F0,F0]) rfl (p_move rfl) (fun _ hw => HeapIs.drop (HeapIs.toE (i := 3) (m := cc.frames.length) (T := tFrame) rfl (by simp only [List.length_set]) hw) (lr)) ?_
    refine h_tk (i := 1) (ls := #[T1,T1,F0,F0,F0,F0,F0,F0,F0,F0,F0,F0,F0,F0]) rfl (p_nilCheck rfl) (fun _ hw => HeapIs.drop (HeapIs.toE (i := 3) (m := cc.frames.length) (T := tFrame) rfl (by simp only [List.length_set]) hw) (lr)) ?_
    refine h_tk (i := 2) (ls := #[T1,T1,T1,F0,F0,F0,F0,F0,F0,F0,F0,F0,F0,F0]) rfl (p_fieldAddr (j' := 0) rfl fo101_0 rfl) (fun _ hw => HeapIs.drop (HeapIs.toE (i := 3) (m := cc.frames.length) (T := tFrame) rfl (by simp only [List.length_set]) hw) (lr)) ?_
    refine h_tk (i := 3) (ls := #[T1,T1,T1,T1,F0,F0,F0,F0,F0,F0,F0,F0,F0,F0]) rfl (p_fieldAddr (j' := 2) rfl fo62_2 rfl) (fun _ hw => HeapIs.drop (HeapIs.toE (i := 3) (m := cc.frames.length) (T := tFrame) rfl (by simp only [List.length_set]) hw) (lr)) ?_
    refine h_tk (i := 4) (ls := #[T1,T1,T1,T1,T1,F0,F0,F0,F0,F0,F0,F0,F0,F0]) rfl (p_load (i := 2) (v := .slice acc_0 cc.frames.length ccc_0) rfl rfl sh60 rfl) (fun _ hw => HeapIs.drop (HeapIs.toE (i := 3) (m := cc.frames.length) (T := tFrame) rfl (by simp only [List.length_set]) hw) (lr)) ?_
    refine h_tk (i := 5) (ls := #[T1,T1,T1,T1,T1,T1,F0,F0,F0,F0,F0,F0,F0,F0]) rfl (p_move rfl) (fun _ hw => HeapIs.drop (HeapIs.toE (i := 3) (m := cc.frames.length) (T := tFrame) rfl (by simp only [List.length_set]) hw) (lr)) ?_
    refine h_tk (i := 6) (ls := #[T1,T1,T1,T1,T1,T1,T1,F0,F0,F0,F0,F0,F0,F0]) rfl (p_nilCheck rfl) (fun _ hw => HeapIs.drop (HeapIs.toE (i := 3) (m := cc.frames.length) (T := tFrame) rfl (by simp only [List.length_set]) hw) (lr)) ?_
    refine h_tk (i := 7) (ls := #[T1,T1,T1,T1,T1,T1,T1,T1,F0,F0,F0,F0,F0,F0]) rfl (p_fieldAddr (j' := 0) rfl fo101_0 rfl) (fun _ hw => HeapIs.drop (HeapIs.toE (i := 3) (m := cc.frames.length) (T := tFrame) rfl (by simp only [List.length_set]) hw) (lr)) ?_
    refine h_tk (i := 8) (ls := #[T1,T1,T1,T1,T1,T1,T1,T1,T1,F0,F0,F0,F0,F0]) rfl (p_fieldAddr (j' := 1) rfl fo62_1 rfl) (fun _ hw => HeapIs.drop (HeapIs.toE (i := 3) (m := cc.frames.length) (T := tFrame) rfl (by simp only [List.length_set]) hw) (lr)) ?_
    refine h_tk (i := 9) (ls := #[T1,T1,T1,T1,T1,T1,T1,T1,T1,T1,F0,F0,F0,F0]) rfl (p_load (i := 2) (v := Vi cc.hand) rfl rfl sh3 rfl) (fun _ hw => HeapIs.drop (HeapIs.toE (i := 3) (m := cc.frames.length) (T := tFrame) rfl (by simp only [List.length_set]) hw) (lr)) ?_
    refine h_tk (i := 10) (ls := #[T1,T1,T1,T1,T1,T1,T1,T1,T1,T1,T1,F0,F0,F0]) rfl (p_load (i := 0) (v := Vi key) rfl rfl sh3 rfl) (fun _ hw => HeapIs.drop (HeapIs.toE (i := 3) (m := cc.frames.length) (T := tFrame) rfl (by simp only [List.length_set]) hw) (lr)) ?_
    refine h_tk (i := 11) (ls := #[T1,T1,T1,T1,T1,T1,T1,T1,T1,T1,T1,T1,F0,F0]) rfl (p_build (cells := [Vi key, .bool false]) fp137 ze137 rfl rfl) (fun _ hw => HeapIs.drop (HeapIs.toE (i := 3) (m := cc.frames.length) (T := tFrame) rfl (by simp only [List.length_set]) hw) (lr)) ?_
    refine h_tk (i := 12) (ls := #[T1,T1,T1,T1,T1,T1,T1,T1,T1,T1,T1,T1,T1,F0]) rfl (p_indexAddrE (T := tFrame) (i := cc.hand) (j := 3) rfl rfl rfl Tryz.underlying60 sz137 (by omega) (by omega)) (fun _ hw => HeapIs.drop (HeapIs.toE (i := 3) (m := cc.frames.length) (T := tFrame) rfl (by simp only [List.length_set]) hw) (lr)) ?_
    refine h_one (i := 13) (ls := #[T1,T1,T1,T1,T1,T1,T1,T1,T1,T1,T1,T1,T1,T1]) (by kernel_rfl) rfl rfl ?_
    refine o_storeW (i := 3) (T := tFrame) (idx := cc.hand.toNat) (v := .agg #[Vi key, .bool false]) (vs := [Vi key, .bool false]) (z := (⟨key, false⟩ : DFrame)) rfl rfl rfl rfl (by first | assumption | omega | (simp only [List.length_set]; omega)) sz137 rfl rfl rfl rfl (Sub.refl _) ?_
    refine o_nil ?_
    refine h_next (fun _ hw => HeapIs.drop (HeapIs.toE (i := 3) (m := cc.frames.length) (T := tFrame) rfl (by simp only [List.length_set]) hw) (lr)) ?_
    refine h_done (by kernel_rfl) ?_
    refine q_cast (F' := [(0, .pointer (some ⟨Bc, 0, none⟩)), (7, Vi ((cc.frames[cc.hand.toNat]).key))]) (H := [box B1 [Vi key] 3, outer w0 [box Bc [Vi c.room, Vi c.hand, .slice ac_0 c.frames.length cc_0] 101, own tFrame Sc_0 ac_0 cc_0 c.frames], box Bc [Vi cc.room, Vi cc.hand, .slice acc_0 cc.frames.length ccc_0] 101, own tFrame Scc_0 acc_0 ccc_0 (cc.frames.set cc.hand.toNat (⟨key, false⟩ : DFrame))]) (H' := [box B1 [Vi key] 3, outer w0 [box Bc [Vi c.room, Vi c.hand, .slice ac_0 c.frames.length cc_0] 101, own tFrame Sc_0 ac_0 cc_0 c.frames], box Bc [Vi cc.room, Vi cc.hand, .slice acc_0 (cc.frames.set cc.hand.toNat (⟨key, false⟩ : DFrame)).length ccc_0] 101, own tFrame Scc_0 acc_0 ccc_0 (cc.frames.set cc.hand.toNat (⟨key, false⟩ : DFrame))]) (sr (sr (Sub.nil _))) (by simp only [List.length_set, List.length_reverse]) ?_
    refine q_then (c_seq (c_region ?_))
    refine o_mv rfl rfl ?_
    refine o_pick (H' := [box Bc [Vi cc.room, Vi cc.hand, .slice acc_0 (cc.frames.set cc.hand.toNat (⟨key, false⟩ : DFrame)).length ccc_0] 101, own tFrame Scc_0 acc_0 ccc_0 (cc.frames.set cc.hand.toNat (⟨key, false⟩ : DFrame)), box B1 [Vi key] 3, outer w0 [box Bc [Vi c.room, Vi c.hand, .slice ac_0 c.frames.length cc_0] 101, own tFrame Sc_0 ac_0 cc_0 c.frames]]) [2, 3, 0, 1] (by decide) rfl ?_
    refine o_callX (pre := [box Bc [Vi cc.room, Vi cc.hand, .slice acc_0 (cc.frames.set cc.hand.toNat (⟨key, false⟩ : DFrame)).length ccc_0] 101, own tFrame Scc_0 acc_0 ccc_0 (cc.frames.set cc.hand.toNat (⟨key, false⟩ : DFrame))]) (R := [box B1 [Vi key] 3, outer w0 [box Bc [Vi c.room, Vi c.hand, .slice ac_0 c.frames.length cc_0] 101, own tFrame Sc_0 ac_0 cc_0 c.frames]]) rfl (step_ok (⟨cc.room, cc.hand, (cc.frames.set cc.hand.toNat (⟨key, false⟩ : DFrame))⟩ : DClock) Bc acc_0 ccc_0 Scc_0 (by (try dsimp only); (try simp only [List.length_set]); omega)) hf95 rfl (fun _ _ => trivial) rfl ?_
    rintro ⟨a14, c15, S16⟩
    refine o_asH (H' := [box Bc [Vi cc.room, Vi ((cc.hand + 1).tmod ((cc.frames.set cc.hand.toNat (⟨key, false⟩ : DFrame)).length : Int)), .slice a14 (cc.frames.set cc.hand.toNat (⟨key, false⟩ : DFrame)).length c15] 101, own tFrame S16 a14 c15 (cc.frames.set cc.hand.toNat (⟨key, false⟩ : DFrame)), box B1 [Vi key] 3, outer w0 [box Bc [Vi c.room, Vi c.hand, .slice ac_0 c.frames.length cc_0] 101, own tFrame Sc_0 ac_0 cc_0 c.frames]]) rfl ?_
    refine o_nil (q_then (c_seq (c_region ?_)))
    refine o_mv rfl rfl ?_
    refine o_as rfl rfl ?_
    refine o_as rfl rfl ?_
    refine o_nil (q_then (c_ret ?_))
    first
     | have ht := Clock.touch_hit (c := c) (key := key) (by assumption)
     | have ht := Clock.touch_room (c := c) (key := key) (by omega) (by omega)
     | have ht := Clock.touch_evict (key := key) hI (by omega) (by omega) hhl (by assumption)
    have hr0 : (cc.room : Int) = ((Clock.touch c key).1).room := by
     simp only [ht, List.length_set]
    have hr1 : ((cc.hand + 1).tmod ((cc.frames.set cc.hand.toNat (⟨key, false⟩ : DFrame)).length : Int) : Int) = ((Clock.touch c key).1).hand := by
     simp only [ht, List.length_set]
    have hr2 : ((cc.frames.set cc.hand.toNat (⟨key, false⟩ : DFrame)) : List DFrame) = ((Clock.touch c key).1).frames := by
     simp only [ht, List.length_set]
    have hr3 : (false : Bool) = ((Clock.touch c key).2.1) := by
     simp only [ht, List.length_set]
    have hr4 : ((cc.frames[cc.hand.toNat]).key : Int) = ((Clock.touch c key).2.2) := by
     simp only [ht, List.length_set]
    refine q_endX (p := (a14, c15, S16)) (rt2 rfl (r_tmp rfl) (r_tmp rfl)) ?_ (fun w hw => ?_)
    ·exact (by have hcc := congr (congr (congr (congr (congrArg (fun (y0 : Int) (y1 : Int) (y2 : List DFrame) (y3 : Bool) (y4 : Int) => (.tuple #[.bool y3, .int .i64 y4] : Value)) hr0) hr1) hr2) hr3) hr4; exact hcc)
    ·have h2 := hw.pick (H' := [outer w0 [box Bc [Vi c.room, Vi c.hand, .slice ac_0 c.frames.length cc_0] 101, own tFrame Sc_0 ac_0 cc_0 c.frames], box Bc [Vi cc.room, Vi ((cc.hand + 1).tmod ((cc.frames.set cc.hand.toNat (⟨key, false⟩ : DFrame)).length : Int)), .slice a14 (cc.frames.set cc.hand.toNat (⟨key, false⟩ : DFrame)).length c15] 101, own tFrame S16 a14 c15 (cc.frames.set cc.hand.toNat (⟨key, false⟩ : DFrame))]) [3, 0, 1] (by decide) rfl
     exact Eq.mp (congrArg (fun z => HeapIs w0 ((outer w0 [box Bc [Vi c.room, Vi c.hand, .slice ac_0 c.frames.length cc_0] 101, own tFrame Sc_0 ac_0 cc_0 c.frames]) :: z) w) ((by have hcc := congr (congr (congr (congr (congrArg (fun (y0 : Int) (y1 : Int) (y2 : List DFrame) (y3 : Bool) (y4 : Int) => ([box Bc [.int .i64 y0, .int .i64 y1, .slice a14 y2.length c15] 101, own tFrame S16 a14 c15 y2] : List Ent)) hr0) hr1) hr2) hr3) hr4; exact hcc))) h2

set_option maxHeartbeats 8000000 in
set_option maxRecDepth 100000 in
theorem run_ok (c : DClock) (ac_0 : Option Addr) (cc_0 : Nat) (l : List Int) (al : Option Addr) (cl : Nat) : FnM Tryz.prog 29 [.agg #[Vi c.room, Vi c.hand, .slice ac_0 c.frames.length cc_0], .slice al l.length cl] (fun w => Rd tFrame w ac_0 cc_0 c.frames ∧ Rd tInt w al cl l) (Option Addr × Nat) (fun p => .tuple #[.agg #[Vi (((Clock.run c l).1).room), Vi (((Clock.run c l).1).hand), .slice p.1 (((Clock.run c l).1).frames).length p.2], Vi ((Clock.run c l).2), Vi (Clock.runErr c l)]) (fun p S w => SlO tFrame S w p.1 p.2 (((Clock.run c l).1).frames)) := by
 refine fnM (nt := 47) (F0 := [(0, .agg #[Vi c.room, Vi c.hand, .slice ac_0 c.frames.length cc_0]), (1, .slice al l.length cl)]) Tryz.func29 rfl Tryz.ntmps29 rfl rfl (fun w0 hpre => ?_)
 obtain ⟨hc_0, hl⟩ := hpre
 have hlhc_0 := hc_0.2.1
 have hlhl := hl.2.1
 refine c_seq (c_region ?_)
 refine o_box (v := .agg #[Vi c.room, Vi c.hand, .slice ac_0 c.frames.length cc_0]) rfl rfl (fun B1 => ?_)
 refine o_alloc ze62 rfl (fun B2 => ?_)
 refine o_as rfl rfl ?_
 refine o_as rfl rfl ?_
 refine o_nil (q_then (c_seq (c_region ?_)))
 refine o_p (p_load_agg (i := 1) (vs := [Vi c.room, Vi c.hand, .slice ac_0 c.frames.length cc_0]) rfl rfl sh62 rfl rfl) ?_
 refine o_call0 (v := Vi (Clock.check c)) rfl (ccheck_ok c ac_0 cc_0) hf57 (fun w hw => (rd_base (i := 2) rfl hc_0) w hw) rfl ?_
 refine o_as rfl rfl ?_
 refine o_nil (q_then (c_seq (c_seq (c_region ?_))))
 refine o_mv rfl rfl ?_
 refine o_p (p_eq rfl rfl) ?_
 refine o_nil (q_then ?_)
 refine c_cond rfl (fun hc3 => ?_) (fun hc3 => ?_)
 ·simp only [beq_iff_eq] at hc3
  have hok := Clock.ok_of hc3
  have hroom := hok.room
  have hlen := hok.len
  refine c_region ?_
  refine o_mv rfl rfl ?_
  refine o_call0 (v := Vi (Lru.trace l)) rfl (checkTrace_ok l al cl) hf17 (fun w hw => (rd_base (i := 2) rfl hl) w hw) rfl ?_
  refine o_as rfl rfl ?_
  refine o_nil (q_then (c_seq (c_seq (c_region ?_))))
  refine o_mv rfl rfl ?_
  refine o_p (p_ne rfl rfl) ?_
  refine o_nil (q_then ?_)
  refine c_cond rfl (fun hc4 => ?_) (fun hc4 => ?_)
  ·simp only [bne_iff_ne, ne_eq] at hc4
   refine c_seq (c_region ?_)
   refine o_p (p_build (cells := [Vi 0, Vi 0, .slice none 0 0]) fp62 ze62 rfl rfl) ?_
   refine o_mv rfl rfl ?_
   refine o_storeN (i := 0) (vs := [Vi 0, Vi 0, .slice none 0 0]) (cs' := [Vi 0, Vi 0, .slice none 0 0]) rfl rfl rfl sz62 rfl rfl rfl rfl ?_
   refine o_as rfl rfl ?_
   refine o_as rfl rfl ?_
   refine o_nil (q_then (c_ret ?_))
   refine q_then_ret ?_
   obtain ⟨ha, hae⟩ : _ ∧ _ := by first | exact Clock.run_chk l (by assumption) | exact Clock.run_tr (c := c) (l := l) (by assumption) (by assumption) | (obtain ⟨h1, h2⟩ := Clock.run_ok (c := c) (l := l) (by assumption) (by assumption); rw [hI.done (by omega)] at h1; exact ⟨h1, h2⟩)
   have hr0 : (0 : Int) = ((Clock.run c l).1).room := by
    simp only [ha, hae, Clock.zero]
   have hr1 : (0 : Int) = ((Clock.run c l).1).hand := by
    simp only [ha, hae, Clock.zero]
   have hr2 : ([] : List DFrame) = ((Clock.run c l).1).frames := by
    simp only [ha, hae, Clock.zero]
   have hr3 : (0 : Int) = ((Clock.run c l).2) := by
    simp only [ha, hae, Clock.zero]
   have hr4 : ((Lru.trace l) : Int) = (Clock.runErr c l) := by
    simp only [ha, hae, Clock.zero]
   refine q_endM (p := (none, 0)) (fun _ => False) (rt3 rfl (r_cell (i := 0) rfl rfl sh62 rfl) (r_tmp rfl) (r_tmp rfl)) (i := 2) rfl ?_ ?_ ?_
   ·exact (by have hcc := congr (congr (congr (congr (congrArg (fun (y0 : Int) (y1 : Int) (y2 : List DFrame) (y3 : Int) (y4 : Int) => (.tuple #[.agg #[.int .i64 y0, .int .i64 y1, .slice none y2.length 0], .int .i64 y3, .int .i64 y4] : Value)) hr0) hr1) hr2) hr3) hr4; exact hcc)
   ·intro w hw b hb; exact hb.elim
   ·intro w hw; exact Eq.mp (congrArg (fun y => SlO tFrame _ w none 0 y) hr2) (SlO.nil tFrame w)
  ·simp only [bne_eq_false_iff_eq] at hc4
   refine c_skip (q_then (c_seq (c_region ?_)))
   refine o_p (p_load_agg (i := 1) (vs := [Vi c.room, Vi c.hand, .slice ac_0 c.frames.length cc_0]) rfl rfl sh62 rfl rfl) ?_
   refine o_callX (pre := []) (R := [box B2 [Vi 0, Vi 0, .slice none 0 0] 62, box B1 [Vi c.room, Vi c.hand, .slice ac_0 c.frames.length cc_0] 62, base w0]) rfl (owned_ok c ac_0 cc_0 (by omega)) hf58 rfl (fun w hw => (rdX (i := 2) (js := []) rfl (by decide) rfl (fun _ hA => slR_base hc_0 hA)) w hw) rfl ?_
   rintro ⟨B5, a6, c7, S8⟩
   refine o_asH (H' := [box B5 [Vi c.room, Vi c.hand, .slice a6 c.frames.length c7] 101, own tFrame S8 a6 c7 c.frames, box B2 [Vi 0, Vi 0, .slice none 0 0] 62, box B1 [Vi c.room, Vi c.hand, .slice ac_0 c.frames.length cc_0] 62, base w0]) rfl ?_
   refine o_as rfl rfl ?_
   refine o_as rfl rfl ?_
   refine o_nil (q_then (c_seq (c_seq (c_region ?_))))
   refine o_mv rfl rfl ?_
   refine o_p (p_len_slice rfl rfl Tryz.underlying26) ?_
   refine o_mv rfl rfl ?_
   refine o_nil (q_then (c_block ?_))
   refine c_loop (St := Int × Nat × DClock × Option Addr × Nat × (Nat → Prop))
    (fun ⟨hits, k, cc, acc_0, ccc_0, Scc_0⟩ => [(4, .pointer (some ⟨B2, 0, none⟩)), (8, .pointer (some ⟨B5, 0, none⟩)), (9, Vi hits), (26, .slice al l.length cl), (27, Vi (l.length : Int)), (28, Vi (k : Int))])
    (fun ⟨hits, k, cc, acc_0, ccc_0, Scc_0⟩ => [box B5 [Vi cc.room, Vi cc.hand, .slice acc_0 cc.frames.length ccc_0] 101, own tFrame Scc_0 acc_0 ccc_0 cc.frames, box B2 [Vi 0, Vi 0, .slice none 0 0] 62, box B1 [Vi c.room, Vi c.hand, .slice ac_0 c.frames.length cc_0] 62, base w0])
    (fun ⟨hits, k, cc, acc_0, ccc_0, Scc_0⟩ => Clock.RInv c cc l hits k)
    (fun ⟨hits, k, cc, acc_0, ccc_0, Scc_0⟩ => l.length - k)
    (0, 0, c, a6, c7, S8) ?_ (sr (sr (sr (sr (sr (sr (Sub.nil _))))))) (fun _ hw => hw) ?_
   ·exact Clock.RInv.start hok l
   rintro ⟨hits, k, cc, acc_0, ccc_0, Scc_0⟩ hI K hK10
   have hn0 := hI.n0
   have hn1 := hI.n1
   show SC _ _ Tryz.prog 47 w0 _ _ [(4, .pointer (some ⟨B2, 0, none⟩)), (8, .pointer (some ⟨B5, 0, none⟩)), (9, Vi hits), (26, .slice al l.length cl), (27, Vi (l.length : Int)), (28, Vi (k : Int))] [box B5 [Vi cc.room, Vi cc.hand, .slice acc_0 cc.frames.length ccc_0] 101, own tFrame Scc_0 acc_0 ccc_0 cc.frames, box B2 [Vi 0, Vi 0, .slice none 0 0] 62, box B1 [Vi c.room, Vi c.hand, .slice ac_0 c.frames.length cc_0] 62, base w0]
   refine c_seq (c_region ?_)
   refine o_p (p_lt rfl rfl) ?_
   refine o_nil (q_then (c_seq ?_))
   refine c_cond rfl (fun hc11 => ?_) (fun hc11 => ?_)
   ·simp only [decide_eq_true_eq] at hc11
    refine c_skip (q_then (c_seq (c_block (c_seq (c_region ?_)))))
    refine o_p (p_indexAddr (L := l) (T := tInt) (i := (k : Int)) rfl rfl (rd_base (i := 4) rfl hl) Tryz.underlying26 sz3 (by omega) (by omega)) ?_
    refine o_p (p_loadE1 (i := k) (T := tInt) (L := l) (v := Vi (l[k])) rfl (rd_base (i := 4) rfl hl) (by first | assumption | omega) sh3 rfl) ?_
    refine o_as rfl rfl ?_
    refine o_nil (q_then (c_seq (c_region ?_)))
    refine o_mv rfl rfl ?_
    refine o_mv rfl rfl ?_
    refine o_callX (pre := [box B5 [Vi cc.room, Vi cc.hand, .slice acc_0 cc.frames.length ccc_0] 101, own tFrame Scc_0 acc_0 ccc_0 cc.frames]) (R := [box B2 [Vi 0, Vi 0, .slice none 0 0] 62, box B1 [Vi c.room, Vi c.hand, .slice ac_0 c.frames.length cc_0] 62, base w0]) rfl (touch_ok cc B5 acc_0 ccc_0 Scc_0 (l[k]) (by first | assumption | exact hI.ok | omega)) hf59 rfl (fun _ _ => trivial) rfl ?_
    rintro ⟨a12, c13, S14⟩
    refine o_asH (H' := [box B5 [Vi (((Clock.touch cc (l[k])).1).room), Vi (((Clock.touch cc (l[k])).1).hand), .slice a12 (((Clock.touch cc (l[k])).1).frames).length c13] 101, own tFrame S14 a12 c13 (((Clock.touch cc (l[k])).1).frames), box B2 [Vi 0, Vi 0, .slice none 0 0] 62, box B1 [Vi c.room, Vi c.hand, .slice ac_0 c.frames.length cc_0] 62, base w0]) rfl ?_
    refine o_mv rfl rfl ?_
    refine o_ex rfl rfl rfl ?_
    refine o_ex rfl rfl rfl ?_
    refine o_as rfl rfl ?_
    refine o_as rfl rfl ?_
    refine o_nil (q_then (c_seq (c_region ?_)))
    refine o_mv rfl rfl ?_
    refine o_nil (q_then ?_)
    refine c_cond rfl (fun hc16 => ?_) (fun hc16 => ?_)
    ·skip
     refine c_region ?_
     refine o_mv rfl rfl ?_
     refine o_p (p_addb rfl rfl (by omega)) ?_
     refine o_as rfl rfl ?_
     refine o_nil ?_
     refine q_block_normal (q_then ?_)
     refine c_region ?_
     refine o_p (p_addb rfl rfl (by omega)) ?_
     refine o_mv rfl rfl ?_
     refine o_nil ?_
     refine q_round hK10 ((hits + 1), k + 1, ((Clock.touch cc (l[k])).1), a12, c13, S14) ?_ ?_ ?_ ?_
     ·clear hK10
      first | exact hI.hit (by omega) (by assumption) | exact hI.miss (by omega) (by assumption)
     ·(try dsimp only); omega
     ·exact sr (sr (sr (sr (sr (sr (Sub.nil _))))))
     ·exact pk [0, 1, 2, 3, 4]
    ·skip
     refine c_skip ?_
     refine q_block_normal (q_then ?_)
     refine c_region ?_
     refine o_p (p_addb rfl rfl (by omega)) ?_
     refine o_mv rfl rfl ?_
     refine o_nil ?_
     refine q_round hK10 (hits, k + 1, ((Clock.touch cc (l[k])).1), a12, c13, S14) ?_ ?_ ?_ ?_
     ·clear hK10
      first | exact hI.hit (by omega) (by assumption) | exact hI.miss (by omega) (by assumption)
     ·(try dsimp only); omega
     ·exact sr (sr (sr (sr (sr (sr (Sub.nil _))))))
     ·exact pk [0, 1, 2, 3, 4]
   ·simp only [decide_eq_false_iff_not, Int.not_lt] at hc11
    refine c_exit ?_
    refine q_then_exit (q_then_exit (q_block_exit (q_then ?_)))
    refine c_seq (c_region ?_)
    refine o_mv rfl rfl ?_
    refine o_p (p_nilCheck rfl) ?_
    refine o_p (p_fieldAddr (j' := 0) rfl fo101_0 rfl) ?_
    refine o_p (p_load_agg (i := 0) (vs := [Vi cc.room, Vi cc.hand, .slice acc_0 cc.frames.length ccc_0]) rfl rfl sh62 rfl rfl) ?_
    refine o_mv rfl rfl ?_
    refine o_storeN (i := 2) (vs := [Vi cc.room, Vi cc.hand, .slice acc_0 cc.frames.length ccc_0]) (cs' := [Vi cc.room, Vi cc.hand, .slice acc_0 cc.frames.length ccc_0]) rfl rfl rfl sz62 rfl rfl rfl rfl ?_
    refine o_as rfl rfl ?_
    refine o_as rfl rfl ?_
    refine o_nil (q_then (c_ret ?_))
    obtain ⟨ha, hae⟩ : _ ∧ _ := by first | exact Clock.run_chk l (by assumption) | exact Clock.run_tr (c := c) (l := l) (by assumption) (by assumption) | (obtain ⟨h1, h2⟩ := Clock.run_ok (c := c) (l := l) (by assumption) (by assumption); rw [hI.done (by omega)] at h1; exact ⟨h1, h2⟩)
    have hr0 : (cc.room : Int) = ((Clock.run c l).1).room := by
     simp only [ha, hae, Clock.zero]
    have hr1 : (cc.hand : Int) = ((Clock.run c l).1).hand := by
     simp only [ha, hae, Clock.zero]
    have hr2 : (cc.frames : List DFrame) = ((Clock.run c l).1).frames := by
     simp only [ha, hae, Clock.zero]
    have hr3 : (hits : Int) = ((Clock.run c l).2) := by
     simp only [ha, hae, Clock.zero]
    have hr4 : (0 : Int) = (Clock.runErr c l) := by
     simp only [ha, hae, Clock.zero]
    refine q_endM (p := (acc_0, ccc_0)) Scc_0 (rt3 rfl (r_cell (i := 2) rfl rfl sh62 rfl) (r_tmp rfl) (r_tmp rfl)) (i := 4) rfl ?_ ?_ ?_
    ·exact (by have hcc := congr (congr (congr (congr (congrArg (fun (y0 : Int) (y1 : Int) (y2 : List DFrame) (y3 : Int) (y4 : Int) => (.tuple #[.agg #[.int .i64 y0, .int .i64 y1, .slice acc_0 y2.length ccc_0], .int .i64 y3, .int .i64 y4] : Value)) hr0) hr1) hr2) hr3) hr4; exact hcc)
    ·exact fun w hw => hw.above (i := 4) (j := 1) (by decide) rfl rfl
    ·intro w hw; exact Eq.mp (congrArg (fun y => SlO tFrame _ w acc_0 ccc_0 y) hr2) ((hw.at (i := 1) rfl).here)
 ·simp only [beq_eq_false_iff_ne, ne_eq] at hc3
  refine c_skip (q_then (c_seq (c_seq (c_region ?_))))
  refine o_mv rfl rfl ?_
  refine o_p (p_ne rfl rfl) ?_
  refine o_nil (q_then ?_)
  refine c_cond rfl (fun hc17 => ?_) (fun hc17 => ?_)
  ·simp only [bne_iff_ne, ne_eq] at hc17
   refine c_seq (c_region ?_)
   refine o_p (p_build (cells := [Vi 0, Vi 0, .slice none 0 0]) fp62 ze62 rfl rfl) ?_
   refine o_mv rfl rfl ?_
   refine o_storeN (i := 0) (vs := [Vi 0, Vi 0, .slice none 0 0]) (cs' := [Vi 0, Vi 0, .slice none 0 0]) rfl rfl rfl sz62 rfl rfl rfl rfl ?_
   refine o_as rfl rfl ?_
   refine o_as rfl rfl ?_
   refine o_nil (q_then (c_ret ?_))
   refine q_then_ret ?_
   obtain ⟨ha, hae⟩ : _ ∧ _ := by first | exact Clock.run_chk l (by assumption) | exact Clock.run_tr (c := c) (l := l) (by assumption) (by assumption) | (obtain ⟨h1, h2⟩ := Clock.run_ok (c := c) (l := l) (by assumption) (by assumption); rw [hI.done (by omega)] at h1; exact ⟨h1, h2⟩)
   have hr0 : (0 : Int) = ((Clock.run c l).1).room := by
    simp only [ha, hae, Clock.zero]
   have hr1 : (0 : Int) = ((Clock.run c l).1).hand := by
    simp only [ha, hae, Clock.zero]
   have hr2 : ([] : List DFrame) = ((Clock.run c l).1).frames := by
    simp only [ha, hae, Clock.zero]
   have hr3 : (0 : Int) = ((Clock.run c l).2) := by
    simp only [ha, hae, Clock.zero]
   have hr4 : ((Clock.check c) : Int) = (Clock.runErr c l) := by
    simp only [ha, hae, Clock.zero]
   refine q_endM (p := (none, 0)) (fun _ => False) (rt3 rfl (r_cell (i := 0) rfl rfl sh62 rfl) (r_tmp rfl) (r_tmp rfl)) (i := 2) rfl ?_ ?_ ?_
   ·exact (by have hcc := congr (congr (congr (congr (congrArg (fun (y0 : Int) (y1 : Int) (y2 : List DFrame) (y3 : Int) (y4 : Int) => (.tuple #[.agg #[.int .i64 y0, .int .i64 y1, .slice none y2.length 0], .int .i64 y3, .int .i64 y4] : Value)) hr0) hr1) hr2) hr3) hr4; exact hcc)
   ·intro w hw b hb; exact hb.elim
   ·intro w hw; exact Eq.mp (congrArg (fun y => SlO tFrame _ w none 0 y) hr2) (SlO.nil tFrame w)
  ·simp only [bne_eq_false_iff_eq] at hc17
   exfalso; first | contradiction | omega | simp_all
end Go.Proofs.YtgkihbbeimhmbaaGreatDoor

/- The walks, printed by a program from the translation and a specification. -/
namespace Go.Proofs.YtgkihbbeimhmbaaGreatDoor
open Go.Sx Go.RowKit
set_option maxHeartbeats 8000000 in
set_option maxRecDepth 100000 in
theorem grow_int_ok (l : List Int) (al : Option Addr) (cl : Nat) (Sl : Nat → Prop) (n : Int) (hy1 : l.length = 0 ∧ cl = 0 ∧ 0 ≤ n ∧ n ≤ 1000000) : FnX Tryz.prog 128 [.slice al l.length cl, Vi n] [own tInt Sl al cl l] (fun _ => True) (Option Addr × Nat × (Nat → Prop)) (fun p => .slice p.1 l.length p.2.1) (fun p => [own tInt p.2.2 p.1 p.2.1 l]) := by
 refine fnX (nt := 27) (F0 := [(0, .slice al l.length cl), (1, Vi n)]) Tryz.func128 rfl Tryz.ntmps128 rfl rfl (fun w0 hpre => ?_)
 refine c_know (fun w hw => own_len (i := 1) (T := tInt) hw rfl) (fun hlown_l => ?_)
 obtain ⟨hcown_l, hlown_l⟩ := hlown_l
 refine c_seq (c_region ?_)
 refine o_as rfl rfl ?_
 refine o_nil (q_then (c_seq (c_seq (c_region ?_))))
 refine o_mv rfl rfl ?_
 refine o_p (p_lt rfl rfl) ?_
 refine o_nil (q_then ?_)
 refine c_cond rfl (fun hc1 => ?_) (fun hc1 => ?_)
 ·simp only [decide_eq_true_eq] at hc1
  exfalso; omega
 ·simp only [decide_eq_false_iff_not, Int.not_lt] at hc1
  refine c_skip (q_then (c_seq (c_seq (c_region ?_))))
  refine o_mv rfl rfl ?_
  refine o_mv rfl rfl ?_
  refine o_p (p_cap_slice rfl rfl Tryz.underlying26) ?_
  refine o_mv rfl rfl ?_
  refine o_p (p_len_slice rfl rfl Tryz.underlying26) ?_
  refine o_p (p_subb rfl rfl (by omega)) ?_
  refine o_p (p_subb rfl rfl (by omega)) ?_
  refine o_as rfl rfl ?_
  refine o_nil (q_then (c_seq (c_region ?_)))
  refine o_mv rfl rfl ?_
  refine o_p (p_gt rfl rfl) ?_
  refine o_nil (q_then ?_)
  refine c_cond rfl (fun hc2 => ?_) (fun hc2 => ?_)
  ·simp only [decide_eq_true_eq] at hc2
   refine c_region ?_
   refine o_mv rfl rfl ?_
   refine o_mv rfl rfl ?_
   refine o_p (p_cap_slice rfl rfl Tryz.underlying26) ?_
   refine o_p (p_sliceH (L := l) (T := tInt) (h := (cl : Int)) rfl rfl Tryz.underlying26 sz3 (by omega) (by omega) (rd_own (i := 1) rfl)) ?_
   refine o_mv rfl rfl ?_
   refine o_appendZ (i := 1) (m := cl) (k := n.toNat) (L := l) (T := tInt) (z := 0) rfl rfl rfl (by omega) Tryz.underlying26 Tryz.underlying3 el3 ze3 rfl (by decide) (by omega) rfl (fun a3 c4 S5 => ?_)
   refine o_know (fun w hw => own_len (i := 0) (T := tInt) hw rfl) (fun hlz7 => ?_)
   refine o_mv rfl rfl ?_
   refine o_p (p_len_slice rfl rfl Tryz.underlying26) ?_
   refine o_p (p_sliceH (L := ((l.take cl) ++ (List.replicate n.toNat 0))) (T := tInt) (h := (l.length : Int)) rfl rfl Tryz.underlying26 sz3 (by omega) (by omega) (rd_own (i := 0) rfl)) ?_
   refine o_as rfl rfl ?_
   refine o_nil (q_then (c_seq (c_region ?_)))
   refine o_mv rfl rfl ?_
   refine o_as rfl rfl ?_
   refine o_nil (q_then (c_ret ?_))
   refine q_shrinkC (i := 0) (hi := (l.length : Int).toNat) (T := tInt) rfl (by omega) ?_
   have hr0 : ((((l.take cl) ++ (List.replicate n.toNat 0)).take ((l.length : Int).toNat)) : List Int) = l := by
    first | rfl | (rw [List.eq_nil_of_length_eq_zero hy1.1]; simp)
   refine q_endX (p := (a3, c4, S5)) (rt1 rfl (r_tmp rfl)) ?_ (fun w hw => ?_)
   ·exact (by have hcc := congrArg (fun (y0 : List Int) => (.slice a3 y0.length c4 : Value)) hr0; exact hcc)
   ·have h2 := hw.pick (H' := [outer w0 [own tInt Sl al cl l], own tInt S5 a3 c4 (((l.take cl) ++ (List.replicate n.toNat 0)).take ((l.length : Int).toNat))]) [1, 0] (by decide) rfl
    exact Eq.mp (congrArg (fun z => HeapIs w0 ((outer w0 [own tInt Sl al cl l]) :: z) w) ((by have hcc := congrArg (fun (y0 : List Int) => ([own tInt S5 a3 c4 y0] : List Ent)) hr0; exact hcc))) h2
  ·simp only [decide_eq_false_iff_not, Int.not_lt] at hc2
   refine c_skip (q_then (c_seq (c_region ?_)))
   refine o_mv rfl rfl ?_
   refine o_as rfl rfl ?_
   refine o_nil (q_then (c_ret ?_))
   refine q_endX (p := (al, cl, Sl)) (rt1 rfl (r_tmp rfl)) ?_ (fun w hw => ?_)
   ·exact rfl
   ·have h2 := hw.pick (H' := [outer w0 [own tInt Sl al cl l], own tInt Sl al cl l]) [0, 1] (by decide) rfl
    exact Eq.mp (congrArg (fun z => HeapIs w0 ((outer w0 [own tInt Sl al cl l]) :: z) w) (rfl)) h2

set_option maxHeartbeats 8000000 in
set_option maxRecDepth 100000 in
theorem concat_int_ok (l : List Hdr) (al : Option Addr) (cl : Nat) (hy1 : (catH l).length ≤ 1000000) : FnM Tryz.prog 104 [.slice al l.length cl] (fun w => Rd tHdr w al cl l ∧ (∀ h ∈ l, Rd tInt w h.a h.cap h.L)) (Option Addr × Nat) (fun p => .slice p.1 (catH l).length p.2) (fun p S w => SlO tInt S w p.1 p.2 (catH l)) := by
 refine fnM (nt := 36) (F0 := [(0, .slice al l.length cl)]) Tryz.func104 rfl Tryz.ntmps104 rfl rfl (fun w0 hpre => ?_)
 obtain ⟨hl, hrl⟩ := hpre
 have hlhl := hl.2.1
 refine c_seq (c_region ?_)
 refine o_as rfl rfl ?_
 refine o_nil (q_then (c_seq (c_region ?_)))
 refine o_as rfl rfl ?_
 refine o_nil (q_then (c_seq (c_seq (c_region ?_))))
 refine o_mv rfl rfl ?_
 refine o_p (p_len_slice rfl rfl Tryz.underlying176) ?_
 refine o_mv rfl rfl ?_
 refine o_nil (q_then (c_block ?_))
 refine c_loop (St := Int × Nat)
  (fun ⟨size, k⟩ => [(0, .slice al l.length cl), (3, Vi size), (9, .slice al l.length cl), (10, Vi (l.length : Int)), (11, Vi (k : Int))])
  (fun ⟨size, k⟩ => [base w0])
  (fun ⟨size, k⟩ => k ≤ l.length ∧ size = ((catH (l.take k)).length : Int))
  (fun ⟨size, k⟩ => l.length - k)
  (0, 0) ?_ (sr (sr (sr (sr (sr (Sub.nil _)))))) (fun _ hw => hw) ?_
 ·exact ⟨Nat.zero_le _, by simp [catH]⟩
 rintro ⟨size, k⟩ hI K hK1
 show SC _ _ Tryz.prog 36 w0 _ _ [(0, .slice al l.length cl), (3, Vi size), (9, .slice al l.length cl), (10, Vi (l.length : Int)), (11, Vi (k : Int))] [base w0]
 refine c_seq (c_region ?_)
 refine o_p (p_lt rfl rfl) ?_
 refine o_nil (q_then (c_seq ?_))
 refine c_cond rfl (fun hc2 => ?_) (fun hc2 => ?_)
 ·simp only [decide_eq_true_eq] at hc2
  have hst := congrArg List.length (catH_step (l := l) (k := k) (by omega))
  rw [List.length_append] at hst
  have hle1 := catH_le l (k + 1)
  refine c_skip (q_then (c_seq (c_block (c_seq (c_region ?_)))))
  refine o_p (p_indexAddr (L := l) (T := tHdr) (i := (k : Int)) rfl rfl (rd_base (i := 0) rfl hl) Tryz.underlying176 sz26 (by omega) (by omega)) ?_
  refine o_p (p_loadE1 (i := k) (T := tHdr) (L := l) (v := .slice ((l[k]).a) ((l[k]).L).length ((l[k]).cap)) rfl (rd_base (i := 0) rfl hl) (by first | assumption | omega) sh26 rfl) ?_
  refine o_as rfl rfl ?_
  refine o_nil (q_then (c_seq (c_region ?_)))
  refine o_mv rfl rfl ?_
  refine o_mv rfl rfl ?_
  refine o_p (p_len_slice rfl rfl Tryz.underlying26) ?_
  refine o_p (p_addb rfl rfl (by omega)) ?_
  refine o_as rfl rfl ?_
  refine o_nil (q_then (c_seq (c_region ?_)))
  refine o_mv rfl rfl ?_
  refine o_p (p_lt rfl rfl) ?_
  refine o_nil (q_then ?_)
  refine c_cond rfl (fun hc3 => ?_) (fun hc3 => ?_)
  ·simp only [decide_eq_true_eq] at hc3
   exfalso; omega
  ·simp only [decide_eq_false_iff_not, Int.not_lt] at hc3
   refine c_skip ?_
   refine q_block_normal (q_then ?_)
   refine c_region ?_
   refine o_p (p_addb rfl rfl (by omega)) ?_
   refine o_mv rfl rfl ?_
   refine o_nil ?_
   refine q_round hK1 ((size + (((l[k]).L).length : Int)), k + 1) ?_ ?_ ?_ ?_
   ·clear hK1
    exact ⟨by omega, by omega⟩
   ·(try dsimp only); omega
   ·exact sr (sr (sr (sr (sr (Sub.nil _)))))
   ·exact pk [0]
 ·simp only [decide_eq_false_iff_not, Int.not_lt] at hc2
  have hle0 := catH_le l k
  refine c_exit ?_
  refine q_then_exit (q_then_exit (q_block_exit (q_then ?_)))
  refine c_seq (c_region ?_)
  refine o_mv rfl rfl ?_
  refine o_ownNil tInt ?_
  refine o_callX (pre := [own tInt (fun _ => False) none 0 ([])]) (R := [base w0]) rfl (grow_int_ok ([]) none 0 (fun _ => False) size (by first | exact ⟨rfl, rfl, by omega, by omega⟩)) hf128 rfl (fun _ _ => trivial) rfl ?_
  rintro ⟨a5, c6, S7⟩
  refine o_asH (H' := [own tInt S7 a5 c6 ([]), base w0]) rfl ?_
  refine o_as rfl rfl ?_
  refine o_nil (q_then (c_seq (c_seq (c_region ?_))))
  refine o_mv rfl rfl ?_
  refine o_p (p_len_slice rfl rfl Tryz.underlying176) ?_
  refine o_mv rfl rfl ?_
  refine o_nil (q_then (c_block ?_))
  refine c_loop (St := List Int × Option Addr × Nat × (Nat → Prop) × Nat)
   (fun ⟨ns, ans, cns, Sns, k2⟩ => [(6, .slice ans ns.length cns), (25, .slice al l.length cl), (26, Vi (l.length : Int)), (27, Vi (k2 : Int))])
   (fun ⟨ns, ans, cns, Sns, k2⟩ => [own tInt Sns ans cns ns, base w0])
   (fun ⟨ns, ans, cns, Sns, k2⟩ => k2 ≤ l.length ∧ ns = catH (l.take k2))
   (fun ⟨ns, ans, cns, Sns, k2⟩ => l.length - k2)
   (([]), a5, c6, S7, 0) ?_ (sr (sr (sr (sr (Sub.nil _))))) (fun _ hw => hw) ?_
  ·exact ⟨Nat.zero_le _, by simp [catH]⟩
  rintro ⟨ns, ans, cns, Sns, k2⟩ hI K hK9
  have hnl : ns.length = (catH (l.take k2)).length := by rw [hI.2]
  show SC _ _ Tryz.prog 36 w0 _ _ [(6, .slice ans ns.length cns), (25, .slice al l.length cl), (26, Vi (l.length : Int)), (27, Vi (k2 : Int))] [own tInt Sns ans cns ns, base w0]
  refine c_seq (c_region ?_)
  refine o_p (p_lt rfl rfl) ?_
  refine o_nil (q_then (c_seq ?_))
  refine c_cond rfl (fun hc10 => ?_) (fun hc10 => ?_)
  ·simp only [decide_eq_true_eq] at hc10
   have hst := congrArg List.length (catH_step (l := l) (k := k2) (by omega))
   rw [List.length_append] at hst
   have hle1 := catH_le l (k2 + 1)
   refine c_skip (q_then (c_seq (c_block (c_seq (c_region ?_)))))
   refine o_p (p_indexAddr (L := l) (T := tHdr) (i := (k2 : Int)) rfl rfl (rd_base (i := 1) rfl hl) Tryz.underlying176 sz26 (by omega) (by omega)) ?_
   refine o_p (p_loadE1 (i := k2) (T := tHdr) (L := l) (v := .slice ((l[k2]).a) ((l[k2]).L).length ((l[k2]).cap)) rfl (rd_base (i := 1) rfl hl) (by first | assumption | omega) sh26 rfl) ?_
   refine o_as rfl rfl ?_
   refine o_nil (q_then (c_region ?_))
   refine o_mv rfl rfl ?_
   refine o_mv rfl rfl ?_
   refine o_append (i := 0) (L := ns) (M := (l[k2]).L) (T := tInt) rfl rfl rfl (rd_base (i := 1) rfl (hrl _ (List.getElem_mem (by first | assumption | omega)))) Tryz.underlying26 Tryz.underlying26 (by intro k h; cases h) el3 (by intro z; simp [tInt, one1]) (by decide) (by first | omega | (simp only [List.length_cons, List.length_nil]; omega) | (simp only [List.length_append, List.length_cons, List.length_nil, List.length_take, List.length_drop]; omega)) rfl (fun a11 c12 S13 => ?_)
   refine o_as rfl rfl ?_
   refine o_nil ?_
   refine q_block_normal (q_then ?_)
   refine c_region ?_
   refine o_p (p_addb rfl rfl (by omega)) ?_
   refine o_mv rfl rfl ?_
   refine o_nil ?_
   refine q_round hK9 ((ns ++ (l[k2]).L), a11, c12, S13, k2 + 1) ?_ ?_ ?_ ?_
   ·clear hK9
    exact ⟨by omega, (congrArg (fun z => z ++ _) hI.2).trans (catH_step (by omega)).symm⟩
   ·(try dsimp only); omega
   ·exact sr (sr (sr (sr (Sub.nil _))))
   ·exact pk [0, 1]
  ·simp only [decide_eq_false_iff_not, Int.not_lt] at hc10
   refine c_exit ?_
   refine q_then_exit (q_then_exit (q_block_exit (q_then ?_)))
   refine c_seq (c_region ?_)
   refine o_mv rfl rfl ?_
   refine o_as rfl rfl ?_
   refine o_nil (q_then (c_ret ?_))
   have hr0 : (ns : List Int) = (catH l) := by
    exact hI.2.trans (catH_all (by omega))
   refine q_endM (p := (ans, cns)) Sns (rt1 rfl (r_tmp rfl)) (i := 1) rfl ?_ ?_ ?_
   ·exact (by have hcc := congrArg (fun (y0 : List Int) => (.slice ans y0.length cns : Value)) hr0; exact hcc)
   ·exact fun w hw => hw.above (i := 1) (j := 0) (by decide) rfl rfl
   ·intro w hw; exact Eq.mp (congrArg (fun y => SlO tInt _ w ans cns y) hr0) ((hw.at (i := 0) rfl).here)
theorem concat2_ok (x : List Int) (ax : Option Addr) (cx : Nat) (y : List Int) (ay : Option Addr) (cy : Nat) (al : Option Addr) (cl : Nat) (hy1 : x.length + y.length ≤ 1000000) :
  FnM Tryz.prog 104 [.slice al [(⟨ax, cx, x⟩ : Hdr), (⟨ay, cy, y⟩ : Hdr)].length cl] (fun w => Rd tHdr w al cl [(⟨ax, cx, x⟩ : Hdr), (⟨ay, cy, y⟩ : Hdr)] ∧ Rd tInt w ax cx x ∧ Rd tInt w ay cy y) (Option Addr × Nat) (fun p => .slice p.1 (x ++ y).length p.2) (fun p S w => SlO tInt S w p.1 p.2 (x ++ y)) := fun w hw => by
 have h := concat_int_ok [(⟨ax, cx, x⟩ : Hdr), (⟨ay, cy, y⟩ : Hdr)] al cl (by simp [catH]; omega) w ⟨hw.1, by intro h hm; simp only [List.mem_cons, List.not_mem_nil, or_false] at hm; rcases hm with rfl | rfl; exact hw.2.1; exact hw.2.2⟩
 rw [show catH [(⟨ax, cx, x⟩ : Hdr), (⟨ay, cy, y⟩ : Hdr)] = x ++ y by simp [catH]] at h
 exact h

set_option maxHeartbeats 8000000 in
set_option maxRecDepth 100000 in
theorem scheck_ok (h : DHalls) (ah_0 : Option Addr) (ch_0 : Nat) (ah_1 : Option Addr) (ch_1 : Nat) : Fn0 Tryz.prog 63 [.agg #[Vi h.first, Vi h.second, .slice ah_0 h.young.length ch_0, .slice ah_1 h.old.length ch_1]] (fun w => Rd tInt w ah_0 ch_0 h.young ∧ Rd tInt w ah_1 ch_1 h.old) (Vi (Seg.check h)) := by
 refine fn0 (nt := 36) (F0 := [(0, .agg #[Vi h.first, Vi h.second, .slice ah_0 h.young.length ch_0, .slice ah_1 h.old.length ch_1])]) Tryz.func63 rfl Tryz.ntmps63 rfl rfl (fun w0 hpre => ?_)
 obtain ⟨hh_0, hh_1⟩ := hpre
 have hlhh_0 := hh_0.2.1
 have hlhh_1 := hh_1.2.1
 refine c_seq (c_region ?_)
 refine o_box (v := .agg #[Vi h.first, Vi h.second, .slice ah_0 h.young.length ch_0, .slice ah_1 h.old.length ch_1]) rfl rfl (fun B1 => ?_)
 refine o_as rfl rfl ?_
 refine o_nil (q_then (c_seq (c_block (c_seq (c_region ?_)))))
 refine o_p (p_fieldAddr (j' := 0) rfl fo71_0 rfl) ?_
 refine o_p (p_load (i := 0) (v := Vi h.first) rfl rfl sh3 rfl) ?_
 refine o_call0 (v := .bool (Lru.okRoom h.first)) rfl (room_ok h.first) hf36 (fun _ _ => trivial) rfl ?_
 refine o_p (p_not (b := (Lru.okRoom h.first)) rfl) ?_
 refine o_mv rfl rfl ?_
 refine o_or (p := 13) 5 (!(Lru.okRoom h.second)) ?_ ?_ ?_
 ·intro hb2 hk
  simp only [Bool.not_eq_false'] at hb2
  refine o_unguard 8 rfl rfl ?_
  refine o_p (p_fieldAddr (j' := 1) rfl fo71_1 rfl) ?_
  refine o_unguard 8 rfl rfl ?_
  refine o_p (p_load (i := 0) (v := Vi h.second) rfl rfl sh3 rfl) ?_
  refine o_unguard 8 rfl rfl ?_
  refine o_call0 (v := .bool (Lru.okRoom h.second)) rfl (room_ok h.second) hf36 (fun _ _ => trivial) rfl ?_
  refine o_unguard 8 rfl rfl ?_
  refine o_p (p_not (b := (Lru.okRoom h.second)) rfl) ?_
  refine o_pf rfl rfl rfl ?_
  exact o_sub (sr (Sub.skip rfl (Sub.skip rfl (Sub.skip rfl (Sub.skip rfl (Sub.skip rfl (Sub.skip rfl (Sub.refl _)))))))) hk
 ·intro hb2 hk
  refine o_guard_no rfl 8 rfl rfl rfl rfl rfl ?_
  refine o_guard_no rfl 8 rfl rfl rfl rfl rfl ?_
  refine o_guard_no rfl 8 rfl rfl rfl rfl rfl ?_
  refine o_guard_no rfl 8 rfl rfl rfl rfl rfl ?_
  refine o_pt rfl rfl rfl ?_
  exact o_sub (sr (Sub.skip rfl (Sub.skip rfl (Sub.skip rfl (Sub.skip rfl (Sub.skip rfl (Sub.skip rfl (Sub.refl _)))))))) hk
 refine o_as rfl rfl ?_
 refine o_nil (q_then ?_)
 refine c_cond rfl (fun hc3 => ?_) (fun hc3 => ?_)
 ·simp only [Bool.or_eq_true, Bool.not_eq_true'] at hc3
  refine c_seq (c_region ?_)
  refine o_as rfl rfl ?_
  refine o_nil (q_then (c_ret ?_))
  refine q_block_ret (q_then_ret ?_)
  have hr0 : (3 : Int) = (Seg.check h) := by
   first | exact Seg.chk1 (by assumption) | exact Seg.chk2 hrm (by omega) | exact Seg.chk3 hrm (by omega)
  refine q_end0 (v := Vi 3) (rt1 rfl (r_tmp rfl)) (i := 1) rfl ?_
  exact (by have hcc := congrArg (fun (y0 : Int) => (.int .i64 y0 : Value)) hr0; exact hcc)
 ·simp only [Bool.or_eq_false_iff, Bool.not_eq_false'] at hc3
  have hrm := hc3
  have hrn := Lru.room_ok hrm.1
  have hrf := Lru.room_ok hrm.2
  refine c_seq (c_region ?_)
  refine o_p (p_fieldAddr (j' := 2) rfl fo71_2 rfl) ?_
  refine o_p (p_load (i := 0) (v := .slice ah_0 h.young.length ch_0) rfl rfl sh26 rfl) ?_
  refine o_p (p_len_slice rfl rfl Tryz.underlying26) ?_
  refine o_p (p_fieldAddr (j' := 0) rfl fo71_0 rfl) ?_
  refine o_p (p_load (i := 0) (v := Vi h.first) rfl rfl sh3 rfl) ?_
  refine o_p (p_gt rfl rfl) ?_
  refine o_mv rfl rfl ?_
  refine o_or (p := 28) 7 (decide (h.second < (h.old.length : Int))) ?_ ?_ ?_
  ·intro hb4 hk
   simp only [decide_eq_false_iff_not, Int.not_lt] at hb4
   refine o_unguard 21 rfl rfl ?_
   refine o_p (p_fieldAddr (j' := 3) rfl fo71_3 rfl) ?_
   refine o_unguard 21 rfl rfl ?_
   refine o_p (p_load (i := 0) (v := .slice ah_1 h.old.length ch_1) rfl rfl sh26 rfl) ?_
   refine o_unguard 21 rfl rfl ?_
   refine o_p (p_len_slice rfl rfl Tryz.underlying26) ?_
   refine o_unguard 21 rfl rfl ?_
   refine o_p (p_fieldAddr (j' := 1) rfl fo71_1 rfl) ?_
   refine o_unguard 21 rfl rfl ?_
   refine o_p (p_load (i := 0) (v := Vi h.second) rfl rfl sh3 rfl) ?_
   refine o_unguard 21 rfl rfl ?_
   refine o_p (p_gt rfl rfl) ?_
   refine o_pf rfl rfl rfl ?_
   exact o_sub (sr (Sub.skip rfl (Sub.skip rfl (Sub.skip rfl (Sub.skip rfl (Sub.skip rfl (Sub.skip rfl (Sub.skip rfl (Sub.skip rfl (Sub.refl _)))))))))) hk
  ·intro hb4 hk
   refine o_guard_no rfl 21 rfl rfl rfl rfl rfl ?_
   refine o_guard_no rfl 21 rfl rfl rfl rfl rfl ?_
   refine o_guard_no rfl 21 rfl rfl rfl rfl rfl ?_
   refine o_guard_no rfl 21 rfl rfl rfl rfl rfl ?_
   refine o_guard_no rfl 21 rfl rfl rfl rfl rfl ?_
   refine o_guard_no rfl 21 rfl rfl rfl rfl rfl ?_
   refine o_pt rfl rfl rfl ?_
   exact o_sub (sr (Sub.skip rfl (Sub.skip rfl (Sub.skip rfl (Sub.skip rfl (Sub.skip rfl (Sub.skip rfl (Sub.skip rfl (Sub.skip rfl (Sub.refl _)))))))))) hk
  refine o_as rfl rfl ?_
  refine o_nil (q_then ?_)
  refine c_cond rfl (fun hc5 => ?_) (fun hc5 => ?_)
  ·simp only [Bool.or_eq_true, decide_eq_true_eq] at hc5
   refine c_seq (c_region ?_)
   refine o_as rfl rfl ?_
   refine o_nil (q_then (c_ret ?_))
   refine q_block_ret (q_then_ret ?_)
   have hr0 : (2 : Int) = (Seg.check h) := by
    first | exact Seg.chk1 (by assumption) | exact Seg.chk2 hrm (by omega) | exact Seg.chk3 hrm (by omega)
   refine q_end0 (v := Vi 2) (rt1 rfl (r_tmp rfl)) (i := 1) rfl ?_
   exact (by have hcc := congrArg (fun (y0 : Int) => (.int .i64 y0 : Value)) hr0; exact hcc)
  ·simp only [Bool.or_eq_false_iff, decide_eq_false_iff_not, Int.not_lt] at hc5
   refine c_skip ?_
   refine q_block_normal (q_then ?_)
   refine c_seq (c_region ?_)
   refine o_p (p_fieldAddr (j' := 2) rfl fo71_2 rfl) ?_
   refine o_p (p_load (i := 0) (v := .slice ah_0 h.young.length ch_0) rfl rfl sh26 rfl) ?_
   refine o_p (p_fieldAddr (j' := 3) rfl fo71_3 rfl) ?_
   refine o_p (p_load (i := 0) (v := .slice ah_1 h.old.length ch_1) rfl rfl sh26 rfl) ?_
   refine o_buildSlice (m := 2) (T := tHdr) (L := [(⟨ah_0, ch_0, h.young⟩ : Hdr), (⟨ah_1, ch_1, h.old⟩ : Hdr)]) (vs := [.slice ah_0 h.young.length ch_0, .slice ah_1 h.old.length ch_1]) rfl rfl rfl rfl Tryz.underlying176 sz26 (by decide) ze26 rfl (by decide) rfl (fun S6 a7 => ?_)
   refine o_callM rfl (concat2_ok h.young ah_0 ch_0 h.old ah_1 ch_1 a7 ([(⟨ah_0, ch_0, h.young⟩ : Hdr), (⟨ah_1, ch_1, h.old⟩ : Hdr)].length) (by first | omega | (simp only [List.length_append]; omega))) hf104 (fun w hw => ⟨(rd_own (i := 0) rfl) w hw, (rd_base (i := 2) rfl hh_0) w hw, (rd_base (i := 2) rfl hh_1) w hw⟩) rfl (fun _ _ _ _ ha hA => SlO.agree ha hA) ?_
   rintro ⟨a11, c12⟩ S9
   refine o_know (fun w hw => own_len (i := 0) (T := tInt) hw rfl) (fun hlr13 => ?_)
   refine o_call0 (v := Vi (Lru.keys (h.young ++ h.old))) rfl (keys_ok (h.young ++ h.old) a11 c12) hf37 (fun w hw => (rd_own (i := 0) rfl) w hw) rfl ?_
   refine o_as rfl rfl ?_
   refine o_nil (q_then (c_ret ?_))
   have hr0 : ((Lru.keys (h.young ++ h.old)) : Int) = (Seg.check h) := by
    first | exact Seg.chk1 (by assumption) | exact Seg.chk2 hrm (by omega) | exact Seg.chk3 hrm (by omega)
   refine q_end0 (v := Vi (Lru.keys (h.young ++ h.old))) (rt1 rfl (r_tmp rfl)) (i := 3) rfl ?_
   exact (by have hcc := congrArg (fun (y0 : Int) => (.int .i64 y0 : Value)) hr0; exact hcc)

set_option maxHeartbeats 8000000 in
set_option maxRecDepth 100000 in
theorem leave_young_ok (b : DHalls) (Bb : Nat) (ab_0 : Option Addr) (cb_0 : Nat) (Sb_0 : Nat → Prop) (ab_1 : Option Addr) (cb_1 : Nat) (Sb_1 : Nat → Prop) (key : Int) : FnX Tryz.prog 105 [.pointer (some ⟨Bb, 0, none⟩), Vi key] [box Bb [.slice ab_0 b.young.length cb_0, Vi b.first, .slice ab_1 b.old.length cb_1, Vi b.second] 152, own tInt Sb_0 ab_0 cb_0 b.young, own tInt Sb_1 ab_1 cb_1 b.old] (fun _ => True) (Option Addr × Nat × (Nat → Prop) × Option Addr × Nat × (Nat → Prop)) (fun p => .bool (decide (key ∈ b.young))) (fun p => [box Bb [.slice p.1 (b.young.erase key).length p.2.1, Vi b.first, .slice p.2.2.2.1 b.old.length p.2.2.2.2.1, Vi b.second] 152, own tInt p.2.2.1 p.1 p.2.1 (b.young.erase key), own tInt p.2.2.2.2.2 p.2.2.2.1 p.2.2.2.2.1 b.old]) := by
 refine fnX (nt := 27) (F0 := [(0, .pointer (some ⟨Bb, 0, none⟩)), (1, Vi key)]) Tryz.func105 rfl Tryz.ntmps105 rfl rfl (fun w0 hpre => ?_)
 refine c_know (fun w hw => own_len (i := 2) (T := tInt) hw rfl) (fun hlown_b_0 => ?_)
 obtain ⟨hcown_b_0, hlown_b_0⟩ := hlown_b_0
 refine c_know (fun w hw => own_len (i := 3) (T := tInt) hw rfl) (fun hlown_b_1 => ?_)
 obtain ⟨hcown_b_1, hlown_b_1⟩ := hlown_b_1
 refine c_seq (c_region ?_)
 refine o_as rfl rfl ?_
 refine o_nil (q_then (c_seq (c_region ?_)))
 refine o_mv rfl rfl ?_
 refine o_p (p_nilCheck rfl) ?_
 refine o_p (p_fieldAddr (j' := 0) rfl fo150_0 rfl) ?_
 refine o_p (p_load (i := 1) (v := .slice ab_0 b.young.length cb_0) rfl rfl sh26 rfl) ?_
 refine o_mv rfl rfl ?_
 refine o_call0 (v := Vi (idxF (fun x : Int => (x == key)) b.young)) rfl (index_int_ok b.young ab_0 cb_0 key) hf41 (fun w hw => (rd_own (i := 2) rfl) w hw) rfl ?_
 refine o_as rfl rfl ?_
 refine o_nil (q_then (c_seq (c_seq (c_region ?_))))
 refine o_mv rfl rfl ?_
 refine o_p (p_ge rfl rfl) ?_
 refine o_nil (q_then ?_)
 refine c_cond rfl (fun hc1 => ?_) (fun hc1 => ?_)
 ·simp only [decide_eq_true_eq] at hc1
  have hix : idxF (fun x : Int => (x == key)) b.young < b.young.length ∧ -1 ≤ idxF (fun x : Int => (x == key)) b.young := Lru.at_lt _ key
  have hnn : 0 ≤ idxF (fun x : Int => (x == key)) b.young := by omega
  refine c_region ?_
  refine o_mv rfl rfl ?_
  refine o_mv rfl rfl ?_
  refine o_p (p_nilCheck rfl) ?_
  refine o_p (p_fieldAddr (j' := 0) rfl fo150_0 rfl) ?_
  refine o_p (p_load (i := 1) (v := .slice ab_0 b.young.length cb_0) rfl rfl sh26 rfl) ?_
  refine o_mv rfl rfl ?_
  refine o_mv rfl rfl ?_
  refine o_p (p_addb rfl rfl (by omega)) ?_
  refine o_pick (H' := [own tInt Sb_0 ab_0 cb_0 b.young, outer w0 [box Bb [.slice ab_0 b.young.length cb_0, Vi b.first, .slice ab_1 b.old.length cb_1, Vi b.second] 152, own tInt Sb_0 ab_0 cb_0 b.young, own tInt Sb_1 ab_1 cb_1 b.old], box Bb [.slice ab_0 b.young.length cb_0, Vi b.first, .slice ab_1 b.old.length cb_1, Vi b.second] 152, own tInt Sb_1 ab_1 cb_1 b.old]) [2, 0, 1, 3] (by decide) rfl ?_
  refine o_callX (pre := [own tInt Sb_0 ab_0 cb_0 b.young]) (R := [outer w0 [box Bb [.slice ab_0 b.young.length cb_0, Vi b.first, .slice ab_1 b.old.length cb_1, Vi b.second] 152, own tInt Sb_0 ab_0 cb_0 b.young, own tInt Sb_1 ab_1 cb_1 b.old], box Bb [.slice ab_0 b.young.length cb_0, Vi b.first, .slice ab_1 b.old.length cb_1, Vi b.second] 152, own tInt Sb_1 ab_1 cb_1 b.old]) rfl (delete_Int_ok b.young ab_0 cb_0 Sb_0 (idxF (fun x : Int => (x == key)) b.young) ((idxF (fun x : Int => (x == key)) b.young) + 1) (by omega)) hf42 rfl (fun _ _ => trivial) rfl ?_
  rintro ⟨a2, c3, S4⟩
  refine o_asH (H' := [own tInt S4 a2 c3 (b.young.take (idxF (fun x : Int => (x == key)) b.young).toNat ++ b.young.drop ((idxF (fun x : Int => (x == key)) b.young) + 1).toNat), outer w0 [box Bb [.slice ab_0 b.young.length cb_0, Vi b.first, .slice ab_1 b.old.length cb_1, Vi b.second] 152, own tInt Sb_0 ab_0 cb_0 b.young, own tInt Sb_1 ab_1 cb_1 b.old], box Bb [.slice ab_0 b.young.length cb_0, Vi b.first, .slice ab_1 b.old.length cb_1, Vi b.second] 152, own tInt Sb_1 ab_1 cb_1 b.old]) rfl ?_
  refine o_p (p_nilCheck rfl) ?_
  refine o_p (p_fieldAddr (j' := 0) rfl fo150_0 rfl) ?_
  refine o_store (i := 2) (v := .slice a2 (b.young.take (idxF (fun x : Int => (x == key)) b.young).toNat ++ b.young.drop ((idxF (fun x : Int => (x == key)) b.young) + 1).toNat).length c3) (cs' := [.slice a2 (b.young.take (idxF (fun x : Int => (x == key)) b.young).toNat ++ b.young.drop ((idxF (fun x : Int => (x == key)) b.young) + 1).toNat).length c3, Vi b.first, .slice ab_1 b.old.length cb_1, Vi b.second]) rfl rfl rfl sz26 rfl rfl rfl ?_
  refine o_nil (q_then (c_seq (c_region ?_)))
  refine o_mv rfl rfl ?_
  refine o_p (p_ge rfl rfl) ?_
  refine o_as rfl rfl ?_
  refine o_nil (q_then (c_ret ?_))
  have hr0 : ((b.young.take (idxF (fun x : Int => (x == key)) b.young).toNat ++ b.young.drop ((idxF (fun x : Int => (x == key)) b.young) + 1).toNat) : List Int) = b.young.erase key := by
   first | (rw [show (idxF (fun x : Int => (x == key)) b.young + 1).toNat = (idxF (fun x : Int => (x == key)) b.young).toNat + 1 by omega]; exact Lru.erase_at hnn) | exact (List.erase_of_not_mem hne).symm | exact decide_eq_decide.2 Lru.at_mem
  have hr4 : (decide (0 ≤ (idxF (fun x : Int => (x == key)) b.young)) : Bool) = (decide (key ∈ b.young)) := by
   first | (rw [show (idxF (fun x : Int => (x == key)) b.young + 1).toNat = (idxF (fun x : Int => (x == key)) b.young).toNat + 1 by omega]; exact Lru.erase_at hnn) | exact (List.erase_of_not_mem hne).symm | exact decide_eq_decide.2 Lru.at_mem
  refine q_endX (p := (a2, c3, S4, ab_1, cb_1, Sb_1)) (rt1 rfl (r_tmp rfl)) ?_ (fun w hw => ?_)
  ·exact (by have hcc := congr (congrArg (fun (y0 : List Int) (y4 : Bool) => (.bool y4 : Value)) hr0) hr4; exact hcc)
  ·have h2 := hw.pick (H' := [outer w0 [box Bb [.slice ab_0 b.young.length cb_0, Vi b.first, .slice ab_1 b.old.length cb_1, Vi b.second] 152, own tInt Sb_0 ab_0 cb_0 b.young, own tInt Sb_1 ab_1 cb_1 b.old], box Bb [.slice a2 (b.young.take (idxF (fun x : Int => (x == key)) b.young).toNat ++ b.young.drop ((idxF (fun x : Int => (x == key)) b.young) + 1).toNat).length c3, Vi b.first, .slice ab_1 b.old.length cb_1, Vi b.second] 152, own tInt S4 a2 c3 (b.young.take (idxF (fun x : Int => (x == key)) b.young).toNat ++ b.young.drop ((idxF (fun x : Int => (x == key)) b.young) + 1).toNat), own tInt Sb_1 ab_1 cb_1 b.old]) [1, 2, 0, 3] (by decide) rfl
   exact Eq.mp (congrArg (fun z => HeapIs w0 ((outer w0 [box Bb [.slice ab_0 b.young.length cb_0, Vi b.first, .slice ab_1 b.old.length cb_1, Vi b.second] 152, own tInt Sb_0 ab_0 cb_0 b.young, own tInt Sb_1 ab_1 cb_1 b.old]) :: z) w) ((by have hcc := congr (congrArg (fun (y0 : List Int) (y4 : Bool) => ([box Bb [.slice a2 y0.length c3, Vi b.first, .slice ab_1 b.old.length cb_1, Vi b.second] 152, own tInt S4 a2 c3 y0, own tInt Sb_1 ab_1 cb_1 b.old] : List Ent)) hr0) hr4; exact hcc))) h2
 ·simp only [decide_eq_false_iff_not, Int.not_le] at hc1
  have hne : key ∉ b.young := fun h => by have := Lru.at_mem.2 h; unfold Lru.at_ at this; omega
  refine c_skip (q_then (c_seq (c_region ?_)))
  refine o_mv rfl rfl ?_
  refine o_p (p_ge rfl rfl) ?_
  refine o_as rfl rfl ?_
  refine o_nil (q_then (c_ret ?_))
  have hr0 : (b.young : List Int) = b.young.erase key := by
   first | (rw [show (idxF (fun x : Int => (x == key)) b.young + 1).toNat = (idxF (fun x : Int => (x == key)) b.young).toNat + 1 by omega]; exact Lru.erase_at hnn) | exact (List.erase_of_not_mem hne).symm | exact decide_eq_decide.2 Lru.at_mem
  have hr4 : (decide (0 ≤ (idxF (fun x : Int => (x == key)) b.young)) : Bool) = (decide (key ∈ b.young)) := by
   first | (rw [show (idxF (fun x : Int => (x == key)) b.young + 1).toNat = (idxF (fun x : Int => (x == key)) b.young).toNat + 1 by omega]; exact Lru.erase_at hnn) | exact (List.erase_of_not_mem hne).symm | exact decide_eq_decide.2 Lru.at_mem
  refine q_endX (p := (ab_0, cb_0, Sb_0, ab_1, cb_1, Sb_1)) (rt1 rfl (r_tmp rfl)) ?_ (fun w hw => ?_)
  ·exact (by have hcc := congr (congrArg (fun (y0 : List Int) (y4 : Bool) => (.bool y4 : Value)) hr0) hr4; exact hcc)
  ·have h2 := hw.pick (H' := [outer w0 [box Bb [.slice ab_0 b.young.length cb_0, Vi b.first, .slice ab_1 b.old.length cb_1, Vi b.second] 152, own tInt Sb_0 ab_0 cb_0 b.young, own tInt Sb_1 ab_1 cb_1 b.old], box Bb [.slice ab_0 b.young.length cb_0, Vi b.first, .slice ab_1 b.old.length cb_1, Vi b.second] 152, own tInt Sb_0 ab_0 cb_0 b.young, own tInt Sb_1 ab_1 cb_1 b.old]) [0, 1, 2, 3] (by decide) rfl
   exact Eq.mp (congrArg (fun z => HeapIs w0 ((outer w0 [box Bb [.slice ab_0 b.young.length cb_0, Vi b.first, .slice ab_1 b.old.length cb_1, Vi b.second] 152, own tInt Sb_0 ab_0 cb_0 b.young, own tInt Sb_1 ab_1 cb_1 b.old]) :: z) w) ((by have hcc := congr (congrArg (fun (y0 : List Int) (y4 : Bool) => ([box Bb [.slice ab_0 y0.length cb_0, Vi b.first, .slice ab_1 b.old.length cb_1, Vi b.second] 152, own tInt Sb_0 ab_0 cb_0 y0, own tInt Sb_1 ab_1 cb_1 b.old] : List Ent)) hr0) hr4; exact hcc))) h2

set_option maxHeartbeats 8000000 in
set_option maxRecDepth 100000 in
theorem leave_old_ok (b : DHalls) (Bb : Nat) (ab_0 : Option Addr) (cb_0 : Nat) (Sb_0 : Nat → Prop) (ab_1 : Option Addr) (cb_1 : Nat) (Sb_1 : Nat → Prop) (key : Int) : FnX Tryz.prog 105 [.pointer (some ⟨Bb, 2, none⟩), Vi key] [box Bb [.slice ab_0 b.young.length cb_0, Vi b.first, .slice ab_1 b.old.length cb_1, Vi b.second] 152, own tInt Sb_0 ab_0 cb_0 b.young, own tInt Sb_1 ab_1 cb_1 b.old] (fun _ => True) (Option Addr × Nat × (Nat → Prop) × Option Addr × Nat × (Nat → Prop)) (fun p => .bool (decide (key ∈ b.old))) (fun p => [box Bb [.slice p.1 b.young.length p.2.1, Vi b.first, .slice p.2.2.2.1 (b.old.erase key).length p.2.2.2.2.1, Vi b.second] 152, own tInt p.2.2.1 p.1 p.2.1 b.young, own tInt p.2.2.2.2.2 p.2.2.2.1 p.2.2.2.2.1 (b.old.erase key)]) := by
 refine fnX (nt := 27) (F0 := [(0, .pointer (some ⟨Bb, 2, none⟩)), (1, Vi key)]) Tryz.func105 rfl Tryz.ntmps105 rfl rfl (fun w0 hpre => ?_)
 refine c_know (fun w hw => own_len (i := 2) (T := tInt) hw rfl) (fun hlown_b_0 => ?_)
 obtain ⟨hcown_b_0, hlown_b_0⟩ := hlown_b_0
 refine c_know (fun w hw => own_len (i := 3) (T := tInt) hw rfl) (fun hlown_b_1 => ?_)
 obtain ⟨hcown_b_1, hlown_b_1⟩ := hlown_b_1
 refine c_seq (c_region ?_)
 refine o_as rfl rfl ?_
 refine o_nil (q_then (c_seq (c_region ?_)))
 refine o_mv rfl rfl ?_
 refine o_p (p_nilCheck rfl) ?_
 refine o_p (p_fieldAddr (j' := 2) rfl fo150_0 rfl) ?_
 refine o_p (p_load (i := 1) (v := .slice ab_1 b.old.length cb_1) rfl rfl sh26 rfl) ?_
 refine o_mv rfl rfl ?_
 refine o_call0 (v := Vi (idxF (fun x : Int => (x == key)) b.old)) rfl (index_int_ok b.old ab_1 cb_1 key) hf41 (fun w hw => (rd_own (i := 3) rfl) w hw) rfl ?_
 refine o_as rfl rfl ?_
 refine o_nil (q_then (c_seq (c_seq (c_region ?_))))
 refine o_mv rfl rfl ?_
 refine o_p (p_ge rfl rfl) ?_
 refine o_nil (q_then ?_)
 refine c_cond rfl (fun hc1 => ?_) (fun hc1 => ?_)
 ·simp only [decide_eq_true_eq] at hc1
  have hix : idxF (fun x : Int => (x == key)) b.old < b.old.length ∧ -1 ≤ idxF (fun x : Int => (x == key)) b.old := Lru.at_lt _ key
  have hnn : 0 ≤ idxF (fun x : Int => (x == key)) b.old := by omega
  refine c_region ?_
  refine o_mv rfl rfl ?_
  refine o_mv rfl rfl ?_
  refine o_p (p_nilCheck rfl) ?_
  refine o_p (p_fieldAddr (j' := 2) rfl fo150_0 rfl) ?_
  refine o_p (p_load (i := 1) (v := .slice ab_1 b.old.length cb_1) rfl rfl sh26 rfl) ?_
  refine o_mv rfl rfl ?_
  refine o_mv rfl rfl ?_
  refine o_p (p_addb rfl rfl (by omega)) ?_
  refine o_pick (H' := [own tInt Sb_1 ab_1 cb_1 b.old, outer w0 [box Bb [.slice ab_0 b.young.length cb_0, Vi b.first, .slice ab_1 b.old.length cb_1, Vi b.second] 152, own tInt Sb_0 ab_0 cb_0 b.young, own tInt Sb_1 ab_1 cb_1 b.old], box Bb [.slice ab_0 b.young.length cb_0, Vi b.first, .slice ab_1 b.old.length cb_1, Vi b.second] 152, own tInt Sb_0 ab_0 cb_0 b.young]) [3, 0, 1, 2] (by decide) rfl ?_
  refine o_callX (pre := [own tInt Sb_1 ab_1 cb_1 b.old]) (R := [outer w0 [box Bb [.slice ab_0 b.young.length cb_0, Vi b.first, .slice ab_1 b.old.length cb_1, Vi b.second] 152, own tInt Sb_0 ab_0 cb_0 b.young, own tInt Sb_1 ab_1 cb_1 b.old], box Bb [.slice ab_0 b.young.length cb_0, Vi b.first, .slice ab_1 b.old.length cb_1, Vi b.second] 152, own tInt Sb_0 ab_0 cb_0 b.young]) rfl (delete_Int_ok b.old ab_1 cb_1 Sb_1 (idxF (fun x : Int => (x == key)) b.old) ((idxF (fun x : Int => (x == key)) b.old) + 1) (by omega)) hf42 rfl (fun _ _ => trivial) rfl ?_
  rintro ⟨a2, c3, S4⟩
  refine o_asH (H' := [own tInt S4 a2 c3 (b.old.take (idxF (fun x : Int => (x == key)) b.old).toNat ++ b.old.drop ((idxF (fun x : Int => (x == key)) b.old) + 1).toNat), outer w0 [box Bb [.slice ab_0 b.young.length cb_0, Vi b.first, .slice ab_1 b.old.length cb_1, Vi b.second] 152, own tInt Sb_0 ab_0 cb_0 b.young, own tInt Sb_1 ab_1 cb_1 b.old], box Bb [.slice ab_0 b.young.length cb_0, Vi b.first, .slice ab_1 b.old.length cb_1, Vi b.second] 152, own tInt Sb_0 ab_0 cb_0 b.young]) rfl ?_
  refine o_p (p_nilCheck rfl) ?_
  refine o_p (p_fieldAddr (j' := 2) rfl fo150_0 rfl) ?_
  refine o_store (i := 2) (v := .slice a2 (b.old.take (idxF (fun x : Int => (x == key)) b.old).toNat ++ b.old.drop ((idxF (fun x : Int => (x == key)) b.old) + 1).toNat).length c3) (cs' := [.slice ab_0 b.young.length cb_0, Vi b.first, .slice a2 (b.old.take (idxF (fun x : Int => (x == key)) b.old).toNat ++ b.old.drop ((idxF (fun x : Int => (x == key)) b.old) + 1).toNat).length c3, Vi b.second]) rfl rfl rfl sz26 rfl rfl rfl ?_
  refine o_nil (q_then (c_seq (c_region ?_)))
  refine o_mv rfl rfl ?_
  refine o_p (p_ge rfl rfl) ?_
  refine o_as rfl rfl ?_
  refine o_nil (q_then (c_ret ?_))
  have hr2 : ((b.old.take (idxF (fun x : Int => (x == key)) b.old).toNat ++ b.old.drop ((idxF (fun x : Int => (x == key)) b.old) + 1).toNat) : List Int) = b.old.erase key := by
   first | (rw [show (idxF (fun x : Int => (x == key)) b.old + 1).toNat = (idxF (fun x : Int => (x == key)) b.old).toNat + 1 by omega]; exact Lru.erase_at hnn) | exact (List.erase_of_not_mem hne).symm | exact decide_eq_decide.2 Lru.at_mem
  have hr4 : (decide (0 ≤ (idxF (fun x : Int => (x == key)) b.old)) : Bool) = (decide (key ∈ b.old)) := by
   first | (rw [show (idxF (fun x : Int => (x == key)) b.old + 1).toNat = (idxF (fun x : Int => (x == key)) b.old).toNat + 1 by omega]; exact Lru.erase_at hnn) | exact (List.erase_of_not_mem hne).symm | exact decide_eq_decide.2 Lru.at_mem
  refine q_endX (p := (ab_0, cb_0, Sb_0, a2, c3, S4)) (rt1 rfl (r_tmp rfl)) ?_ (fun w hw => ?_)
  ·exact (by have hcc := congr (congrArg (fun (y2 : List Int) (y4 : Bool) => (.bool y4 : Value)) hr2) hr4; exact hcc)
  ·have h2 := hw.pick (H' := [outer w0 [box Bb [.slice ab_0 b.young.length cb_0, Vi b.first, .slice ab_1 b.old.length cb_1, Vi b.second] 152, own tInt Sb_0 ab_0 cb_0 b.young, own tInt Sb_1 ab_1 cb_1 b.old], box Bb [.slice ab_0 b.young.length cb_0, Vi b.first, .slice a2 (b.old.take (idxF (fun x : Int => (x == key)) b.old).toNat ++ b.old.drop ((idxF (fun x : Int => (x == key)) b.old) + 1).toNat).length c3, Vi b.second] 152, own tInt Sb_0 ab_0 cb_0 b.young, own tInt S4 a2 c3 (b.old.take (idxF (fun x : Int => (x == key)) b.old).toNat ++ b.old.drop ((idxF (fun x : Int => (x == key)) b.old) + 1).toNat)]) [1, 2, 3, 0] (by decide) rfl
   exact Eq.mp (congrArg (fun z => HeapIs w0 ((outer w0 [box Bb [.slice ab_0 b.young.length cb_0, Vi b.first, .slice ab_1 b.old.length cb_1, Vi b.second] 152, own tInt Sb_0 ab_0 cb_0 b.young, own tInt Sb_1 ab_1 cb_1 b.old]) :: z) w) ((by have hcc := congr (congrArg (fun (y2 : List Int) (y4 : Bool) => ([box Bb [.slice ab_0 b.young.length cb_0, Vi b.first, .slice a2 y2.length c3, Vi b.second] 152, own tInt Sb_0 ab_0 cb_0 b.young, own tInt S4 a2 c3 y2] : List Ent)) hr2) hr4; exact hcc))) h2
 ·simp only [decide_eq_false_iff_not, Int.not_le] at hc1
  have hne : key ∉ b.old := fun h => by have := Lru.at_mem.2 h; unfold Lru.at_ at this; omega
  refine c_skip (q_then (c_seq (c_region ?_)))
  refine o_mv rfl rfl ?_
  refine o_p (p_ge rfl rfl) ?_
  refine o_as rfl rfl ?_
  refine o_nil (q_then (c_ret ?_))
  have hr2 : (b.old : List Int) = b.old.erase key := by
   first | (rw [show (idxF (fun x : Int => (x == key)) b.old + 1).toNat = (idxF (fun x : Int => (x == key)) b.old).toNat + 1 by omega]; exact Lru.erase_at hnn) | exact (List.erase_of_not_mem hne).symm | exact decide_eq_decide.2 Lru.at_mem
  have hr4 : (decide (0 ≤ (idxF (fun x : Int => (x == key)) b.old)) : Bool) = (decide (key ∈ b.old)) := by
   first | (rw [show (idxF (fun x : Int => (x == key)) b.old + 1).toNat = (idxF (fun x : Int => (x == key)) b.old).toNat + 1 by omega]; exact Lru.erase_at hnn) | exact (List.erase_of_not_mem hne).symm | exact decide_eq_decide.2 Lru.at_mem
  refine q_endX (p := (ab_0, cb_0, Sb_0, ab_1, cb_1, Sb_1)) (rt1 rfl (r_tmp rfl)) ?_ (fun w hw => ?_)
  ·exact (by have hcc := congr (congrArg (fun (y2 : List Int) (y4 : Bool) => (.bool y4 : Value)) hr2) hr4; exact hcc)
  ·have h2 := hw.pick (H' := [outer w0 [box Bb [.slice ab_0 b.young.length cb_0, Vi b.first, .slice ab_1 b.old.length cb_1, Vi b.second] 152, own tInt Sb_0 ab_0 cb_0 b.young, own tInt Sb_1 ab_1 cb_1 b.old], box Bb [.slice ab_0 b.young.length cb_0, Vi b.first, .slice ab_1 b.old.length cb_1, Vi b.second] 152, own tInt Sb_0 ab_0 cb_0 b.young, own tInt Sb_1 ab_1 cb_1 b.old]) [0, 1, 2, 3] (by decide) rfl
   exact Eq.mp (congrArg (fun z => HeapIs w0 ((outer w0 [box Bb [.slice ab_0 b.young.length cb_0, Vi b.first, .slice ab_1 b.old.length cb_1, Vi b.second] 152, own tInt Sb_0 ab_0 cb_0 b.young, own tInt Sb_1 ab_1 cb_1 b.old]) :: z) w) ((by have hcc := congr (congrArg (fun (y2 : List Int) (y4 : Bool) => ([box Bb [.slice ab_0 b.young.length cb_0, Vi b.first, .slice ab_1 y2.length cb_1, Vi b.second] 152, own tInt Sb_0 ab_0 cb_0 b.young, own tInt Sb_1 ab_1 cb_1 y2] : List Ent)) hr2) hr4; exact hcc))) h2

set_option maxHeartbeats 8000000 in
set_option maxRecDepth 100000 in
theorem enter_young_ok (b : DHalls) (Bb : Nat) (ab_0 : Option Addr) (cb_0 : Nat) (Sb_0 : Nat → Prop) (ab_1 : Option Addr) (cb_1 : Nat) (Sb_1 : Nat → Prop) (key : Int) (hy1 : 0 ≤ b.first ∧ b.young.length ≤ 1000) : FnX Tryz.prog 106 [.pointer (some ⟨Bb, 0, none⟩), Vi key] [box Bb [.slice ab_0 b.young.length cb_0, Vi b.first, .slice ab_1 b.old.length cb_1, Vi b.second] 152, own tInt Sb_0 ab_0 cb_0 b.young, own tInt Sb_1 ab_1 cb_1 b.old] (fun _ => True) (Option Addr × Nat × (Nat → Prop) × Option Addr × Nat × (Nat → Prop) × Option Addr × Nat × (Nat → Prop)) (fun p => .slice p.2.2.2.2.2.2.1 ((key :: b.young).drop b.first.toNat).length p.2.2.2.2.2.2.2.1) (fun p => [box Bb [.slice p.1 ((key :: b.young).take b.first.toNat).length p.2.1, Vi b.first, .slice p.2.2.2.1 b.old.length p.2.2.2.2.1, Vi b.second] 152, own tInt p.2.2.1 p.1 p.2.1 ((key :: b.young).take b.first.toNat), own tInt p.2.2.2.2.2.1 p.2.2.2.1 p.2.2.2.2.1 b.old, own tInt p.2.2.2.2.2.2.2.2 p.2.2.2.2.2.2.1 p.2.2.2.2.2.2.2.1 ((key :: b.young).drop b.first.toNat)]) := by
 refine fnX (nt := 44) (F0 := [(0, .pointer (some ⟨Bb, 0, none⟩)), (1, Vi key)]) Tryz.func106 rfl Tryz.ntmps106 rfl rfl (fun w0 hpre => ?_)
 refine c_know (fun w hw => own_len (i := 2) (T := tInt) hw rfl) (fun hlown_b_0 => ?_)
 obtain ⟨hcown_b_0, hlown_b_0⟩ := hlown_b_0
 refine c_know (fun w hw => own_len (i := 3) (T := tInt) hw rfl) (fun hlown_b_1 => ?_)
 obtain ⟨hcown_b_1, hlown_b_1⟩ := hlown_b_1
 refine c_seq (c_region ?_)
 refine o_as rfl rfl ?_
 refine o_nil (q_then (c_seq (c_region ?_)))
 refine o_mv rfl rfl ?_
 refine o_mv rfl rfl ?_
 refine o_p (p_nilCheck rfl) ?_
 refine o_p (p_fieldAddr (j' := 0) rfl fo150_0 rfl) ?_
 refine o_p (p_load (i := 1) (v := .slice ab_0 b.young.length cb_0) rfl rfl sh26 rfl) ?_
 refine o_mv rfl rfl ?_
 refine o_buildSlice (m := 1) (T := tInt) (L := [key]) (vs := [Vi key]) rfl rfl rfl rfl Tryz.underlying26 sz3 (by decide) ze3 rfl (by decide) rfl (fun S1 a2 => ?_)
 refine o_pick (H' := [own tInt Sb_0 ab_0 cb_0 b.young, own tInt S1 a2 ([key].length) ([key]), outer w0 [box Bb [.slice ab_0 b.young.length cb_0, Vi b.first, .slice ab_1 b.old.length cb_1, Vi b.second] 152, own tInt Sb_0 ab_0 cb_0 b.young, own tInt Sb_1 ab_1 cb_1 b.old], box Bb [.slice ab_0 b.young.length cb_0, Vi b.first, .slice ab_1 b.old.length cb_1, Vi b.second] 152, own tInt Sb_1 ab_1 cb_1 b.old]) [3, 0, 1, 2, 4] (by decide) rfl ?_
 refine o_callX (pre := [own tInt Sb_0 ab_0 cb_0 b.young, own tInt S1 a2 ([key].length) ([key])]) (R := [outer w0 [box Bb [.slice ab_0 b.young.length cb_0, Vi b.first, .slice ab_1 b.old.length cb_1, Vi b.second] 152, own tInt Sb_0 ab_0 cb_0 b.young, own tInt Sb_1 ab_1 cb_1 b.old], box Bb [.slice ab_0 b.young.length cb_0, Vi b.first, .slice ab_1 b.old.length cb_1, Vi b.second] 152, own tInt Sb_1 ab_1 cb_1 b.old]) rfl (insert_Int_ok b.young ab_0 cb_0 Sb_0 (0 : Int) ([key]) a2 ([key].length) S1 (by (try simp only [List.length_cons, List.length_nil, List.length_append, List.length_take, List.length_drop, and_true]); omega)) hf43 rfl (fun _ _ => trivial) rfl ?_
 rintro ⟨a4, c5, S6⟩
 refine o_asH (H' := [own tInt S6 a4 c5 (b.young.take (0 : Int).toNat ++ ([key]) ++ b.young.drop (0 : Int).toNat), outer w0 [box Bb [.slice ab_0 b.young.length cb_0, Vi b.first, .slice ab_1 b.old.length cb_1, Vi b.second] 152, own tInt Sb_0 ab_0 cb_0 b.young, own tInt Sb_1 ab_1 cb_1 b.old], box Bb [.slice ab_0 b.young.length cb_0, Vi b.first, .slice ab_1 b.old.length cb_1, Vi b.second] 152, own tInt Sb_1 ab_1 cb_1 b.old]) rfl ?_
 refine o_p (p_nilCheck rfl) ?_
 refine o_p (p_fieldAddr (j' := 0) rfl fo150_0 rfl) ?_
 refine o_store (i := 2) (v := .slice a4 (b.young.take (0 : Int).toNat ++ ([key]) ++ b.young.drop (0 : Int).toNat).length c5) (cs' := [.slice a4 (b.young.take (0 : Int).toNat ++ ([key]) ++ b.young.drop (0 : Int).toNat).length c5, Vi b.first, .slice ab_1 b.old.length cb_1, Vi b.second]) rfl rfl rfl sz26 rfl rfl rfl ?_
 refine o_nil (q_then (c_seq ?_))
 refine c_draw hmix (by kernel_rfl) ?_
 refine w_mv rfl rfl ?_
 refine w_p (p_nilCheck rfl) ?_
 refine w_p (p_fieldAddr (j' := 0) rfl fo150_0 rfl) ?_
 refine w_p (p_load (i := 2) (v := .slice a4 (b.young.take (0 : Int).toNat ++ ([key]) ++ b.young.drop (0 : Int).toNat).length c5) rfl rfl sh26 rfl) ?_
 refine w_p (p_len_slice rfl rfl Tryz.underlying26) ?_
 refine w_mv rfl rfl ?_
 refine w_p (p_nilCheck rfl) ?_
 refine w_p (p_fieldAddr (j' := 1) rfl fo150_1 rfl) ?_
 refine w_p (p_load (i := 2) (v := Vi b.first) rfl rfl sh3 rfl) ?_
 refine w_p (p_min (p := ((b.young.take (0 : Int).toNat ++ ([key]) ++ b.young.drop (0 : Int).toNat).length : Int)) (q := b.first) rfl rfl) ?_
 refine w_p (p_assign rfl) ?_
 refine w_nil (q_then (c_seq (c_region ?_)))
 refine o_mv rfl rfl ?_
 refine o_p (p_nilCheck rfl) ?_
 refine o_p (p_fieldAddr (j' := 0) rfl fo150_0 rfl) ?_
 refine o_p (p_load (i := 2) (v := .slice a4 (b.young.take (0 : Int).toNat ++ ([key]) ++ b.young.drop (0 : Int).toNat).length c5) rfl rfl sh26 rfl) ?_
 refine o_mv rfl rfl ?_
 refine o_p (p_sliceL (L := (b.young.take (0 : Int).toNat ++ ([key]) ++ b.young.drop (0 : Int).toNat)) (T := tInt) (l := (min ((b.young.take (0 : Int).toNat ++ ([key]) ++ b.young.drop (0 : Int).toNat).length : Int) b.first)) rfl rfl Tryz.underlying26 sz3 (by omega) (by omega) (rd_own (i := 0) rfl)) ?_
 refine o_callM rfl (clone_Int_ok ((b.young.take (0 : Int).toNat ++ ([key]) ++ b.young.drop (0 : Int).toNat).drop ((min ((b.young.take (0 : Int).toNat ++ ([key]) ++ b.young.drop (0 : Int).toNat).length : Int) b.first).toNat)) (sa a4 c5 ((min ((b.young.take (0 : Int).toNat ++ ([key]) ++ b.young.drop (0 : Int).toNat).length : Int) b.first).toNat) tInt.k) (c5 - (min ((b.young.take (0 : Int).toNat ++ ([key]) ++ b.young.drop (0 : Int).toNat).length : Int) b.first).toNat) (by first | assumption | omega | (simp only [List.length_append, List.length_take, List.length_drop, List.length_cons, List.length_nil]; omega))) hf40 (fun w hw => (rd_dropC (l := (min ((b.young.take (0 : Int).toNat ++ ([key]) ++ b.young.drop (0 : Int).toNat).length : Int) b.first).toNat) (rd_own (i := 0) rfl) (by omega)) w hw) rfl (fun _ _ _ _ ha hA => SlO.agree ha hA) ?_
 rintro ⟨a10, c11⟩ S8
 refine o_know (fun w hw => own_len (i := 0) (T := tInt) hw rfl) (fun hlr12 => ?_)
 refine o_as rfl rfl ?_
 refine o_nil (q_then (c_seq (c_region ?_)))
 refine o_mv rfl rfl ?_
 refine o_mv rfl rfl ?_
 refine o_p (p_nilCheck rfl) ?_
 refine o_p (p_fieldAddr (j' := 0) rfl fo150_0 rfl) ?_
 refine o_p (p_load (i := 3) (v := .slice a4 (b.young.take (0 : Int).toNat ++ ([key]) ++ b.young.drop (0 : Int).toNat).length c5) rfl rfl sh26 rfl) ?_
 refine o_mv rfl rfl ?_
 refine o_p (p_sliceH (L := (b.young.take (0 : Int).toNat ++ ([key]) ++ b.young.drop (0 : Int).toNat)) (T := tInt) (h := (min ((b.young.take (0 : Int).toNat ++ ([key]) ++ b.young.drop (0 : Int).toNat).length : Int) b.first)) rfl rfl Tryz.underlying26 sz3 (by omega) (by omega) (rd_own (i := 1) rfl)) ?_
 refine o_p (p_nilCheck rfl) ?_
 refine o_p (p_fieldAddr (j' := 0) rfl fo150_0 rfl) ?_
 refine o_shrinkC (i := 1) (hi := (min ((b.young.take (0 : Int).toNat ++ ([key]) ++ b.young.drop (0 : Int).toNat).length : Int) b.first).toNat) (T := tInt) rfl (by omega) ?_
 refine o_store (i := 3) (v := .slice a4 ((b.young.take (0 : Int).toNat ++ ([key]) ++ b.young.drop (0 : Int).toNat).take ((min ((b.young.take (0 : Int).toNat ++ ([key]) ++ b.young.drop (0 : Int).toNat).length : Int) b.first).toNat)).length c5) (cs' := [.slice a4 ((b.young.take (0 : Int).toNat ++ ([key]) ++ b.young.drop (0 : Int).toNat).take ((min ((b.young.take (0 : Int).toNat ++ ([key]) ++ b.young.drop (0 : Int).toNat).length : Int) b.first).toNat)).length c5, Vi b.first, .slice ab_1 b.old.length cb_1, Vi b.second]) rfl rfl rfl sz26 rfl rfl rfl ?_
 refine o_nil (q_then (c_seq (c_region ?_)))
 refine o_mv rfl rfl ?_
 refine o_as rfl rfl ?_
 refine o_nil (q_then (c_ret ?_))
 have hr0 : (((b.young.take (0 : Int).toNat ++ ([key]) ++ b.young.drop (0 : Int).toNat).take ((min ((b.young.take (0 : Int).toNat ++ ([key]) ++ b.young.drop (0 : Int).toNat).length : Int) b.first).toNat)) : List Int) = (key :: b.young).take b.first.toNat := by
  first | (rw [Seg.min_len]; exact Seg.cut_a _ _ _) | (rw [Seg.min_len]; exact Seg.cut_b _ _ _)
 have hr4 : (((b.young.take (0 : Int).toNat ++ ([key]) ++ b.young.drop (0 : Int).toNat).drop ((min ((b.young.take (0 : Int).toNat ++ ([key]) ++ b.young.drop (0 : Int).toNat).length : Int) b.first).toNat)) : List Int) = ((key :: b.young).drop b.first.toNat) := by
  first | (rw [Seg.min_len]; exact Seg.cut_a _ _ _) | (rw [Seg.min_len]; exact Seg.cut_b _ _ _)
 refine q_endX (p := (a4, c5, S6, ab_1, cb_1, Sb_1, a10, c11, S8)) (rt1 rfl (r_tmp rfl)) ?_ (fun w hw => ?_)
 ·exact (by have hcc := congr (congrArg (fun (y0 : List Int) (y4 : List Int) => (.slice a10 y4.length c11 : Value)) hr0) hr4; exact hcc)
 ·have h2 := hw.pick (H' := [outer w0 [box Bb [.slice ab_0 b.young.length cb_0, Vi b.first, .slice ab_1 b.old.length cb_1, Vi b.second] 152, own tInt Sb_0 ab_0 cb_0 b.young, own tInt Sb_1 ab_1 cb_1 b.old], box Bb [.slice a4 ((b.young.take (0 : Int).toNat ++ ([key]) ++ b.young.drop (0 : Int).toNat).take ((min ((b.young.take (0 : Int).toNat ++ ([key]) ++ b.young.drop (0 : Int).toNat).length : Int) b.first).toNat)).length c5, Vi b.first, .slice ab_1 b.old.length cb_1, Vi b.second] 152, own tInt S6 a4 c5 ((b.young.take (0 : Int).toNat ++ ([key]) ++ b.young.drop (0 : Int).toNat).take ((min ((b.young.take (0 : Int).toNat ++ ([key]) ++ b.young.drop (0 : Int).toNat).length : Int) b.first).toNat)), own tInt Sb_1 ab_1 cb_1 b.old, own tInt S8 a10 c11 ((b.young.take (0 : Int).toNat ++ ([key]) ++ b.young.drop (0 : Int).toNat).drop ((min ((b.young.take (0 : Int).toNat ++ ([key]) ++ b.young.drop (0 : Int).toNat).length : Int) b.first).toNat))]) [2, 3, 1, 4, 0] (by decide) rfl
  exact Eq.mp (congrArg (fun z => HeapIs w0 ((outer w0 [box Bb [.slice ab_0 b.young.length cb_0, Vi b.first, .slice ab_1 b.old.length cb_1, Vi b.second] 152, own tInt Sb_0 ab_0 cb_0 b.young, own tInt Sb_1 ab_1 cb_1 b.old]) :: z) w) ((by have hcc := congr (congrArg (fun (y0 : List Int) (y4 : List Int) => ([box Bb [.slice a4 y0.length c5, Vi b.first, .slice ab_1 b.old.length cb_1, Vi b.second] 152, own tInt S6 a4 c5 y0, own tInt Sb_1 ab_1 cb_1 b.old, own tInt S8 a10 c11 y4] : List Ent)) hr0) hr4; exact hcc))) h2

set_option maxHeartbeats 8000000 in
set_option maxRecDepth 100000 in
theorem enter_old_ok (b : DHalls) (Bb : Nat) (ab_0 : Option Addr) (cb_0 : Nat) (Sb_0 : Nat → Prop) (ab_1 : Option Addr) (cb_1 : Nat) (Sb_1 : Nat → Prop) (key : Int) (hy1 : 0 ≤ b.second ∧ b.old.length ≤ 1000) : FnX Tryz.prog 106 [.pointer (some ⟨Bb, 2, none⟩), Vi key] [box Bb [.slice ab_0 b.young.length cb_0, Vi b.first, .slice ab_1 b.old.length cb_1, Vi b.second] 152, own tInt Sb_0 ab_0 cb_0 b.young, own tInt Sb_1 ab_1 cb_1 b.old] (fun _ => True) (Option Addr × Nat × (Nat → Prop) × Option Addr × Nat × (Nat → Prop) × Option Addr × Nat × (Nat → Prop)) (fun p => .slice p.2.2.2.2.2.2.1 ((key :: b.old).drop b.second.toNat).length p.2.2.2.2.2.2.2.1) (fun p => [box Bb [.slice p.1 b.young.length p.2.1, Vi b.first, .slice p.2.2.2.1 ((key :: b.old).take b.second.toNat).length p.2.2.2.2.1, Vi b.second] 152, own tInt p.2.2.1 p.1 p.2.1 b.young, own tInt p.2.2.2.2.2.1 p.2.2.2.1 p.2.2.2.2.1 ((key :: b.old).take b.second.toNat), own tInt p.2.2.2.2.2.2.2.2 p.2.2.2.2.2.2.1 p.2.2.2.2.2.2.2.1 ((key :: b.old).drop b.second.toNat)]) := by
 refine fnX (nt := 44) (F0 := [(0, .pointer (some ⟨Bb, 2, none⟩)), (1, Vi key)]) Tryz.func106 rfl Tryz.ntmps106 rfl rfl (fun w0 hpre => ?_)
 refine c_know (fun w hw => own_len (i := 2) (T := tInt) hw rfl) (fun hlown_b_0 => ?_)
 obtain ⟨hcown_b_0, hlown_b_0⟩ := hlown_b_0
 refine c_know (fun w hw => own_len (i := 3) (T := tInt) hw rfl) (fun hlown_b_1 => ?_)
 obtain ⟨hcown_b_1, hlown_b_1⟩ := hlown_b_1
 refine c_seq (c_region ?_)
 refine o_as rfl rfl ?_
 refine o_nil (q_then (c_seq (c_region ?_)))
 refine o_mv rfl rfl ?_
 refine o_mv rfl rfl ?_
 refine o_p (p_nilCheck rfl) ?_
 refine o_p (p_fieldAddr (j' := 2) rfl fo150_0 rfl) ?_
 refine o_p (p_load (i := 1) (v := .slice ab_1 b.old.length cb_1) rfl rfl sh26 rfl) ?_
 refine o_mv rfl rfl ?_
 refine o_buildSlice (m := 1) (T := tInt) (L := [key]) (vs := [Vi key]) rfl rfl rfl rfl Tryz.underlying26 sz3 (by decide) ze3 rfl (by decide) rfl (fun S1 a2 => ?_)
 refine o_pick (H' := [own tInt Sb_1 ab_1 cb_1 b.old, own tInt S1 a2 ([key].length) ([key]), outer w0 [box Bb [.slice ab_0 b.young.length cb_0, Vi b.first, .slice ab_1 b.old.length cb_1, Vi b.second] 152, own tInt Sb_0 ab_0 cb_0 b.young, own tInt Sb_1 ab_1 cb_1 b.old], box Bb [.slice ab_0 b.young.length cb_0, Vi b.first, .slice ab_1 b.old.length cb_1, Vi b.second] 152, own tInt Sb_0 ab_0 cb_0 b.young]) [4, 0, 1, 2, 3] (by decide) rfl ?_
 refine o_callX (pre := [own tInt Sb_1 ab_1 cb_1 b.old, own tInt S1 a2 ([key].length) ([key])]) (R := [outer w0 [box Bb [.slice ab_0 b.young.length cb_0, Vi b.first, .slice ab_1 b.old.length cb_1, Vi b.second] 152, own tInt Sb_0 ab_0 cb_0 b.young, own tInt Sb_1 ab_1 cb_1 b.old], box Bb [.slice ab_0 b.young.length cb_0, Vi b.first, .slice ab_1 b.old.length cb_1, Vi b.second] 152, own tInt Sb_0 ab_0 cb_0 b.young]) rfl (insert_Int_ok b.old ab_1 cb_1 Sb_1 (0 : Int) ([key]) a2 ([key].length) S1 (by (try simp only [List.length_cons, List.length_nil, List.length_append, List.length_take, List.length_drop, and_true]); omega)) hf43 rfl (fun _ _ => trivial) rfl ?_
 rintro ⟨a4, c5, S6⟩
 refine o_asH (H' := [own tInt S6 a4 c5 (b.old.take (0 : Int).toNat ++ ([key]) ++ b.old.drop (0 : Int).toNat), outer w0 [box Bb [.slice ab_0 b.young.length cb_0, Vi b.first, .slice ab_1 b.old.length cb_1, Vi b.second] 152, own tInt Sb_0 ab_0 cb_0 b.young, own tInt Sb_1 ab_1 cb_1 b.old], box Bb [.slice ab_0 b.young.length cb_0, Vi b.first, .slice ab_1 b.old.length cb_1, Vi b.second] 152, own tInt Sb_0 ab_0 cb_0 b.young]) rfl ?_
 refine o_p (p_nilCheck rfl) ?_
 refine o_p (p_fieldAddr (j' := 2) rfl fo150_0 rfl) ?_
 refine o_store (i := 2) (v := .slice a4 (b.old.take (0 : Int).toNat ++ ([key]) ++ b.old.drop (0 : Int).toNat).length c5) (cs' := [.slice ab_0 b.young.length cb_0, Vi b.first, .slice a4 (b.old.take (0 : Int).toNat ++ ([key]) ++ b.old.drop (0 : Int).toNat).length c5, Vi b.second]) rfl rfl rfl sz26 rfl rfl rfl ?_
 refine o_nil (q_then (c_seq ?_))
 refine c_draw hmix (by kernel_rfl) ?_
 refine w_mv rfl rfl ?_
 refine w_p (p_nilCheck rfl) ?_
 refine w_p (p_fieldAddr (j' := 2) rfl fo150_0 rfl) ?_
 refine w_p (p_load (i := 2) (v := .slice a4 (b.old.take (0 : Int).toNat ++ ([key]) ++ b.old.drop (0 : Int).toNat).length c5) rfl rfl sh26 rfl) ?_
 refine w_p (p_len_slice rfl rfl Tryz.underlying26) ?_
 refine w_mv rfl rfl ?_
 refine w_p (p_nilCheck rfl) ?_
 refine w_p (p_fieldAddr (j' := 3) rfl fo150_1 rfl) ?_
 refine w_p (p_load (i := 2) (v := Vi b.second) rfl rfl sh3 rfl) ?_
 refine w_p (p_min (p := ((b.old.take (0 : Int).toNat ++ ([key]) ++ b.old.drop (0 : Int).toNat).length : Int)) (q := b.second) rfl rfl) ?_
 refine w_p (p_assign rfl) ?_
 refine w_nil (q_then (c_seq (c_region ?_)))
 refine o_mv rfl rfl ?_
 refine o_p (p_nilCheck rfl) ?_
 refine o_p (p_fieldAddr (j' := 2) rfl fo150_0 rfl) ?_
 refine o_p (p_load (i := 2) (v := .slice a4 (b.old.take (0 : Int).toNat ++ ([key]) ++ b.old.drop (0 : Int).toNat).length c5) rfl rfl sh26 rfl) ?_
 refine o_mv rfl rfl ?_
 refine o_p (p_sliceL (L := (b.old.take (0 : Int).toNat ++ ([key]) ++ b.old.drop (0 : Int).toNat)) (T := tInt) (l := (min ((b.old.take (0 : Int).toNat ++ ([key]) ++ b.old.drop (0 : Int).toNat).length : Int) b.second)) rfl rfl Tryz.underlying26 sz3 (by omega) (by omega) (rd_own (i := 0) rfl)) ?_
 refine o_callM rfl (clone_Int_ok ((b.old.take (0 : Int).toNat ++ ([key]) ++ b.old.drop (0 : Int).toNat).drop ((min ((b.old.take (0 : Int).toNat ++ ([key]) ++ b.old.drop (0 : Int).toNat).length : Int) b.second).toNat)) (sa a4 c5 ((min ((b.old.take (0 : Int).toNat ++ ([key]) ++ b.old.drop (0 : Int).toNat).length : Int) b.second).toNat) tInt.k) (c5 - (min ((b.old.take (0 : Int).toNat ++ ([key]) ++ b.old.drop (0 : Int).toNat).length : Int) b.second).toNat) (by first | assumption | omega | (simp only [List.length_append, List.length_take, List.length_drop, List.length_cons, List.length_nil]; omega))) hf40 (fun w hw => (rd_dropC (l := (min ((b.old.take (0 : Int).toNat ++ ([key]) ++ b.old.drop (0 : Int).toNat).length : Int) b.second).toNat) (rd_own (i := 0) rfl) (by omega)) w hw) rfl (fun _ _ _ _ ha hA => SlO.agree ha hA) ?_
 rintro ⟨a10, c11⟩ S8
 refine o_know (fun w hw => own_len (i := 0) (T := tInt) hw rfl) (fun hlr12 => ?_)
 refine o_as rfl rfl ?_
 refine o_nil (q_then (c_seq (c_region ?_)))
 refine o_mv rfl rfl ?_
 refine o_mv rfl rfl ?_
 refine o_p (p_nilCheck rfl) ?_
 refine o_p (p_fieldAddr (j' := 2) rfl fo150_0 rfl) ?_
 refine o_p (p_load (i := 3) (v := .slice a4 (b.old.take (0 : Int).toNat ++ ([key]) ++ b.old.drop (0 : Int).toNat).length c5) rfl rfl sh26 rfl) ?_
 refine o_mv rfl rfl ?_
 refine o_p (p_sliceH (L := (b.old.take (0 : Int).toNat ++ ([key]) ++ b.old.drop (0 : Int).toNat)) (T := tInt) (h := (min ((b.old.take (0 : Int).toNat ++ ([key]) ++ b.old.drop (0 : Int).toNat).length : Int) b.second)) rfl rfl Tryz.underlying26 sz3 (by omega) (by omega) (rd_own (i := 1) rfl)) ?_
 refine o_p (p_nilCheck rfl) ?_
 refine o_p (p_fieldAddr (j' := 2) rfl fo150_0 rfl) ?_
 refine o_shrinkC (i := 1) (hi := (min ((b.old.take (0 : Int).toNat ++ ([key]) ++ b.old.drop (0 : Int).toNat).length : Int) b.second).toNat) (T := tInt) rfl (by omega) ?_
 refine o_store (i := 3) (v := .slice a4 ((b.old.take (0 : Int).toNat ++ ([key]) ++ b.old.drop (0 : Int).toNat).take ((min ((b.old.take (0 : Int).toNat ++ ([key]) ++ b.old.drop (0 : Int).toNat).length : Int) b.second).toNat)).length c5) (cs' := [.slice ab_0 b.young.length cb_0, Vi b.first, .slice a4 ((b.old.take (0 : Int).toNat ++ ([key]) ++ b.old.drop (0 : Int).toNat).take ((min ((b.old.take (0 : Int).toNat ++ ([key]) ++ b.old.drop (0 : Int).toNat).length : Int) b.second).toNat)).length c5, Vi b.second]) rfl rfl rfl sz26 rfl rfl rfl ?_
 refine o_nil (q_then (c_seq (c_region ?_)))
 refine o_mv rfl rfl ?_
 refine o_as rfl rfl ?_
 refine o_nil (q_then (c_ret ?_))
 have hr2 : (((b.old.take (0 : Int).toNat ++ ([key]) ++ b.old.drop (0 : Int).toNat).take ((min ((b.old.take (0 : Int).toNat ++ ([key]) ++ b.old.drop (0 : Int).toNat).length : Int) b.second).toNat)) : List Int) = (key :: b.old).take b.second.toNat := by
  first | (rw [Seg.min_len]; exact Seg.cut_a _ _ _) | (rw [Seg.min_len]; exact Seg.cut_b _ _ _)
 have hr4 : (((b.old.take (0 : Int).toNat ++ ([key]) ++ b.old.drop (0 : Int).toNat).drop ((min ((b.old.take (0 : Int).toNat ++ ([key]) ++ b.old.drop (0 : Int).toNat).length : Int) b.second).toNat)) : List Int) = ((key :: b.old).drop b.second.toNat) := by
  first | (rw [Seg.min_len]; exact Seg.cut_a _ _ _) | (rw [Seg.min_len]; exact Seg.cut_b _ _ _)
 refine q_endX (p := (ab_0, cb_0, Sb_0, a4, c5, S6, a10, c11, S8)) (rt1 rfl (r_tmp rfl)) ?_ (fun w hw => ?_)
 ·exact (by have hcc := congr (congrArg (fun (y2 : List Int) (y4 : List Int) => (.slice a10 y4.length c11 : Value)) hr2) hr4; exact hcc)
 ·have h2 := hw.pick (H' := [outer w0 [box Bb [.slice ab_0 b.young.length cb_0, Vi b.first, .slice ab_1 b.old.length cb_1, Vi b.second] 152, own tInt Sb_0 ab_0 cb_0 b.young, own tInt Sb_1 ab_1 cb_1 b.old], box Bb [.slice ab_0 b.young.length cb_0, Vi b.first, .slice a4 ((b.old.take (0 : Int).toNat ++ ([key]) ++ b.old.drop (0 : Int).toNat).take ((min ((b.old.take (0 : Int).toNat ++ ([key]) ++ b.old.drop (0 : Int).toNat).length : Int) b.second).toNat)).length c5, Vi b.second] 152, own tInt Sb_0 ab_0 cb_0 b.young, own tInt S6 a4 c5 ((b.old.take (0 : Int).toNat ++ ([key]) ++ b.old.drop (0 : Int).toNat).take ((min ((b.old.take (0 : Int).toNat ++ ([key]) ++ b.old.drop (0 : Int).toNat).length : Int) b.second).toNat)), own tInt S8 a10 c11 ((b.old.take (0 : Int).toNat ++ ([key]) ++ b.old.drop (0 : Int).toNat).drop ((min ((b.old.take (0 : Int).toNat ++ ([key]) ++ b.old.drop (0 : Int).toNat).length : Int) b.second).toNat))]) [2, 3, 4, 1, 0] (by decide) rfl
  exact Eq.mp (congrArg (fun z => HeapIs w0 ((outer w0 [box Bb [.slice ab_0 b.young.length cb_0, Vi b.first, .slice ab_1 b.old.length cb_1, Vi b.second] 152, own tInt Sb_0 ab_0 cb_0 b.young, own tInt Sb_1 ab_1 cb_1 b.old]) :: z) w) ((by have hcc := congr (congrArg (fun (y2 : List Int) (y4 : List Int) => ([box Bb [.slice ab_0 b.young.length cb_0, Vi b.first, .slice a4 y2.length c5, Vi b.second] 152, own tInt Sb_0 ab_0 cb_0 b.young, own tInt S6 a4 c5 y2, own tInt S8 a10 c11 y4] : List Ent)) hr2) hr4; exact hcc))) h2

set_option maxHeartbeats 8000000 in
set_option maxRecDepth 100000 in
theorem sowned_ok (h : DHalls) (ah_0 : Option Addr) (ch_0 : Nat) (ah_1 : Option Addr) (ch_1 : Nat) (hy1 : h.young.length ≤ 1000 ∧ h.old.length ≤ 1000) : FnX Tryz.prog 64 [.agg #[Vi h.first, Vi h.second, .slice ah_0 h.young.length ch_0, .slice ah_1 h.old.length ch_1]] [] (fun w => SlR tInt (outer w []).S w ah_0 ch_0 h.young ∧ SlR tInt (outer w []).S w ah_1 ch_1 h.old) (Nat × Option Addr × Nat × (Nat → Prop) × Option Addr × Nat × (Nat → Prop)) (fun p => .pointer (some ⟨p.1, 0, none⟩)) (fun p => [box p.1 [.slice p.2.1 h.young.length p.2.2.1, Vi h.first, .slice p.2.2.2.2.1 h.old.length p.2.2.2.2.2.1, Vi h.second] 152, own tInt p.2.2.2.1 p.2.1 p.2.2.1 h.young, own tInt p.2.2.2.2.2.2 p.2.2.2.2.1 p.2.2.2.2.2.1 h.old]) := by
 refine fnX (nt := 17) (F0 := [(0, .agg #[Vi h.first, Vi h.second, .slice ah_0 h.young.length ch_0, .slice ah_1 h.old.length ch_1])]) Tryz.func64 rfl Tryz.ntmps64 rfl rfl (fun w0 hpre => ?_)
 obtain ⟨hh_0, hh_1⟩ := hpre
 have hlhh_0 := hh_0.2.1
 have hlhh_1 := hh_1.2.1
 refine c_seq (c_region ?_)
 refine o_box (v := .agg #[Vi h.first, Vi h.second, .slice ah_0 h.young.length ch_0, .slice ah_1 h.old.length ch_1]) rfl rfl (fun B1 => ?_)
 refine o_as rfl rfl ?_
 refine o_nil (q_then (c_seq ?_))
 refine c_held hmix [box B1 [Vi h.first, Vi h.second, .slice ah_0 h.young.length ch_0, .slice ah_1 h.old.length ch_1] 71, outer w0 []] rfl rfl ?_
 refine h_t0 (i := 0) (ls := #[T1,F0,F0,F0,F0,F0,F0,F0,F0,F0,F0,F0,F0,F0,F0]) rfl (p_fieldAddr (j' := 2) rfl fo71_2 rfl) ?_
 refine h_t0 (i := 1) (ls := #[T1,T1,F0,F0,F0,F0,F0,F0,F0,F0,F0,F0,F0,F0,F0]) rfl (p_load (i := 0) (v := .slice ah_0 h.young.length ch_0) rfl rfl sh26 rfl) ?_
 refine h_t0 (i := 3) (ls := #[T1,T1,F0,T1,F0,F0,F0,F0,F0,F0,F0,F0,F0,F0,F0]) rfl (p_fieldAddr (j' := 0) rfl fo71_0 rfl) ?_
 refine h_t0 (i := 4) (ls := #[T1,T1,F0,T1,T1,F0,F0,F0,F0,F0,F0,F0,F0,F0,F0]) rfl (p_load (i := 0) (v := Vi h.first) rfl rfl sh3 rfl) ?_
 refine h_t0 (i := 6) (ls := #[T1,T1,F0,T1,T1,F0,T1,F0,F0,F0,F0,F0,F0,F0,F0]) rfl (p_fieldAddr (j' := 3) rfl fo71_3 rfl) ?_
 refine h_t0 (i := 7) (ls := #[T1,T1,F0,T1,T1,F0,T1,T1,F0,F0,F0,F0,F0,F0,F0]) rfl (p_load (i := 0) (v := .slice ah_1 h.old.length ch_1) rfl rfl sh26 rfl) ?_
 refine h_t0 (i := 9) (ls := #[T1,T1,F0,T1,T1,F0,T1,T1,F0,T1,F0,F0,F0,F0,F0]) rfl (p_fieldAddr (j' := 1) rfl fo71_1 rfl) ?_
 refine h_t0 (i := 10) (ls := #[T1,T1,F0,T1,T1,F0,T1,T1,F0,T1,T1,F0,F0,F0,F0]) rfl (p_load (i := 0) (v := Vi h.second) rfl rfl sh3 rfl) ?_
 refine h_one (i := 2) (ls := #[T1,T1,T1,T1,T1,F0,T1,T1,F0,T1,T1,F0,F0,F0,F0]) (by kernel_rfl) rfl rfl ?_
 refine o_callM rfl (clone_Int_ok h.young ah_0 ch_0 (by first | assumption | omega | (simp only [List.length_append, List.length_take, List.length_drop, List.length_cons, List.length_nil]; omega))) hf40 (fun w hw => (rd_outer (i := 1) rfl hh_0) w hw) rfl (fun _ _ _ _ ha hA => SlO.agree ha hA) ?_
 rintro ⟨a2_2, c2_2⟩ S2_2
 refine o_know (fun w hw => own_len (i := 0) (T := tInt) hw rfl) (fun hlr2_2 => ?_)
 refine o_nil ?_
 refine h_next (dp (lz (lj (lj (ln))))) ?_
 refine h_tk (i := 5) (ls := #[T1,T1,T1,T1,T1,T1,T1,T1,F0,T1,T1,F0,F0,F0,F0]) rfl (p_build (cells := [.slice a2_2 h.young.length c2_2, Vi h.first]) fp150 ze150 rfl rfl) (dp (lz (lj (lj (ln))))) ?_
 refine h_one (i := 8) (ls := #[T1,T1,T1,T1,T1,T1,T1,T1,T1,T1,T1,F0,F0,F0,F0]) (by kernel_rfl) rfl rfl ?_
 refine o_callM rfl (clone_Int_ok h.old ah_1 ch_1 (by first | assumption | omega | (simp only [List.length_append, List.length_take, List.length_drop, List.length_cons, List.length_nil]; omega))) hf40 (fun w hw => (rd_outer (i := 2) rfl hh_1) w hw) rfl (fun _ _ _ _ ha hA => SlO.agree ha hA) ?_
 rintro ⟨a2_8, c2_8⟩ S2_8
 refine o_know (fun w hw => own_len (i := 0) (T := tInt) hw rfl) (fun hlr2_8 => ?_)
 refine o_nil ?_
 refine h_next (dp (lz (lz (lj (lj (ln)))))) ?_
 refine h_tk (i := 11) (ls := #[T1,T1,T1,T1,T1,T1,T1,T1,T1,T1,T1,T1,F0,F0,F0]) rfl (p_build (cells := [.slice a2_8 h.old.length c2_8, Vi h.second]) fp150 ze150 rfl rfl) (dp (lz (lz (lj (lj (ln)))))) ?_
 refine h_tk (i := 12) (ls := #[T1,T1,T1,T1,T1,T1,T1,T1,T1,T1,T1,T1,T1,F0,F0]) rfl (p_build (cells := [.slice a2_2 h.young.length c2_2, Vi h.first, .slice a2_8 h.old.length c2_8, Vi h.second]) fp152 ze152 rfl rfl) (dp (lz (lz (lj (lj (ln)))))) ?_
 refine h_one (i := 13) (ls := #[T1,T1,T1,T1,T1,T1,T1,T1,T1,T1,T1,T1,T1,T1,F0]) (by kernel_rfl) rfl rfl ?_
 refine o_box (v := .agg #[.slice a2_2 h.young.length c2_2, Vi h.first, .slice a2_8 h.old.length c2_8, Vi h.second]) rfl rfl (fun B2_13 => ?_)
 refine o_nil ?_
 refine h_next (dp (lz (lz (lz (lj (lj (ln))))))) ?_
 refine h_tk (i := 14) (ls := #[T1,T1,T1,T1,T1,T1,T1,T1,T1,T1,T1,T1,T1,T1,T1]) rfl (p_assign rfl) (dp (lz (lz (lz (lj (lj (ln))))))) ?_
 refine h_done (by kernel_rfl) ?_
 refine q_then (c_ret ?_)
 refine q_endX (p := (B2_13, a2_2, c2_2, S2_2, a2_8, c2_8, S2_8)) (rt1 rfl (r_tmp rfl)) ?_ (fun w hw => ?_)
 ·exact rfl
 ·have h2 := hw.pick (H' := [outer w0 [], box B2_13 [.slice a2_2 h.young.length c2_2, Vi h.first, .slice a2_8 h.old.length c2_8, Vi h.second] 152, own tInt S2_2 a2_2 c2_2 h.young, own tInt S2_8 a2_8 c2_8 h.old]) [4, 0, 2, 1] (by decide) rfl
  exact Eq.mp (congrArg (fun z => HeapIs w0 ((outer w0 []) :: z) w) (rfl)) h2

set_option maxHeartbeats 8000000 in
set_option maxRecDepth 100000 in
theorem shalls_ok (b : DHalls) (Bb : Nat) (ab_0 : Option Addr) (cb_0 : Nat) (Sb_0 : Nat → Prop) (ab_1 : Option Addr) (cb_1 : Nat) (Sb_1 : Nat → Prop) : FnX Tryz.prog 66 [.pointer (some ⟨Bb, 0, none⟩)] [box Bb [.slice ab_0 b.young.length cb_0, Vi b.first, .slice ab_1 b.old.length cb_1, Vi b.second] 152, own tInt Sb_0 ab_0 cb_0 b.young, own tInt Sb_1 ab_1 cb_1 b.old] (fun _ => True) (Option Addr × Nat × (Nat → Prop) × Option Addr × Nat × (Nat → Prop)) (fun p => .agg #[Vi b.first, Vi b.second, .slice p.1 b.young.length p.2.1, .slice p.2.2.2.1 b.old.length p.2.2.2.2.1]) (fun p => [own tInt p.2.2.1 p.1 p.2.1 b.young, own tInt p.2.2.2.2.2 p.2.2.2.1 p.2.2.2.2.1 b.old]) := by
 refine fnX (nt := 24) (F0 := [(0, .pointer (some ⟨Bb, 0, none⟩))]) Tryz.func66 rfl Tryz.ntmps66 rfl rfl (fun w0 hpre => ?_)
 refine c_know (fun w hw => own_len (i := 2) (T := tInt) hw rfl) (fun hlown_b_0 => ?_)
 obtain ⟨hcown_b_0, hlown_b_0⟩ := hlown_b_0
 refine c_know (fun w hw => own_len (i := 3) (T := tInt) hw rfl) (fun hlown_b_1 => ?_)
 obtain ⟨hcown_b_1, hlown_b_1⟩ := hlown_b_1
 refine c_seq (c_region ?_)
 refine o_alloc ze71 rfl (fun B1 => ?_)
 refine o_nil (q_then (c_seq ?_))
 refine c_held hmix [outer w0 [box Bb [.slice ab_0 b.young.length cb_0, Vi b.first, .slice ab_1 b.old.length cb_1, Vi b.second] 152, own tInt Sb_0 ab_0 cb_0 b.young, own tInt Sb_1 ab_1 cb_1 b.old], box Bb [.slice ab_0 b.young.length cb_0, Vi b.first, .slice ab_1 b.old.length cb_1, Vi b.second] 152, own tInt Sb_0 ab_0 cb_0 b.young, own tInt Sb_1 ab_1 cb_1 b.old] rfl rfl ?_
 refine h_tk (i := 0) (ls := #[T1,F0,F0,F0,F0,F0,F0,F0,F0,F0,F0,F0,F0,F0,F0,F0,F0,F0,F0,F0,F0,F0]) rfl (p_move rfl) (dp (lz (lj (lj (lj (lj (ln))))))) ?_
 refine h_tk (i := 1) (ls := #[T1,T1,F0,F0,F0,F0,F0,F0,F0,F0,F0,F0,F0,F0,F0,F0,F0,F0,F0,F0,F0,F0]) rfl (p_nilCheck rfl) (dp (lz (lj (lj (lj (lj (ln))))))) ?_
 refine h_tk (i := 2) (ls := #[T1,T1,T1,F0,F0,F0,F0,F0,F0,F0,F0,F0,F0,F0,F0,F0,F0,F0,F0,F0,F0,F0]) rfl (p_fieldAddr (j' := 0) rfl fo152_0 rfl) (dp (lz (lj (lj (lj (lj (ln))))))) ?_
 refine h_tk (i := 3) (ls := #[T1,T1,T1,T1,F0,F0,F0,F0,F0,F0,F0,F0,F0,F0,F0,F0,F0,F0,F0,F0,F0,F0]) rfl (p_fieldAddr (j' := 1) rfl fo150_1 rfl) (dp (lz (lj (lj (lj (lj (ln))))))) ?_
 refine h_tk (i := 4) (ls := #[T1,T1,T1,T1,T1,F0,F0,F0,F0,F0,F0,F0,F0,F0,F0,F0,F0,F0,F0,F0,F0,F0]) rfl (p_load (i := 1) (v := Vi b.first) rfl rfl sh3 rfl) (dp (lz (lj (lj (lj (lj (ln))))))) ?_
 refine h_tk (i := 5) (ls := #[T1,T1,T1,T1,T1,T1,F0,F0,F0,F0,F0,F0,F0,F0,F0,F0,F0,F0,F0,F0,F0,F0]) rfl (p_move rfl) (dp (lz (lj (lj (lj (lj (ln))))))) ?_
 refine h_tk (i := 6) (ls := #[T1,T1,T1,T1,T1,T1,T1,F0,F0,F0,F0,F0,F0,F0,F0,F0,F0,F0,F0,F0,F0,F0]) rfl (p_nilCheck rfl) (dp (lz (lj (lj (lj (lj (ln))))))) ?_
 refine h_tk (i := 7) (ls := #[T1,T1,T1,T1,T1,T1,T1,T1,F0,F0,F0,F0,F0,F0,F0,F0,F0,F0,F0,F0,F0,F0]) rfl (p_fieldAddr (j' := 2) rfl fo152_1 rfl) (dp (lz (lj (lj (lj (lj (ln))))))) ?_
 refine h_tk (i := 8) (ls := #[T1,T1,T1,T1,T1,T1,T1,T1,T1,F0,F0,F0,F0,F0,F0,F0,F0,F0,F0,F0,F0,F0]) rfl (p_fieldAddr (j' := 3) rfl fo150_1 rfl) (dp (lz (lj (lj (lj (lj (ln))))))) ?_
 refine h_tk (i := 9) (ls := #[T1,T1,T1,T1,T1,T1,T1,T1,T1,T1,F0,F0,F0,F0,F0,F0,F0,F0,F0,F0,F0,F0]) rfl (p_load (i := 1) (v := Vi b.second) rfl rfl sh3 rfl) (dp (lz (lj (lj (lj (lj (ln))))))) ?_
 refine h_tk (i := 10) (ls := #[T1,T1,T1,T1,T1,T1,T1,T1,T1,T1,T1,F0,F0,F0,F0,F0,F0,F0,F0,F0,F0,F0]) rfl (p_move rfl) (dp (lz (lj (lj (lj (lj (ln))))))) ?_
 refine h_tk (i := 11) (ls := #[T1,T1,T1,T1,T1,T1,T1,T1,T1,T1,T1,T1,F0,F0,F0,F0,F0,F0,F0,F0,F0,F0]) rfl (p_nilCheck rfl) (dp (lz (lj (lj (lj (lj (ln))))))) ?_
 refine h_tk (i := 12) (ls := #[T1,T1,T1,T1,T1,T1,T1,T1,T1,T1,T1,T1,T1,F0,F0,F0,F0,F0,F0,F0,F0,F0]) rfl (p_fieldAddr (j' := 0) rfl fo152_0 rfl) (dp (lz (lj (lj (lj (lj (ln))))))) ?_
 refine h_tk (i := 13) (ls := #[T1,T1,T1,T1,T1,T1,T1,T1,T1,T1,T1,T1,T1,T1,F0,F0,F0,F0,F0,F0,F0,F0]) rfl (p_fieldAddr (j' := 0) rfl fo150_0 rfl) (dp (lz (lj (lj (lj (lj (ln))))))) ?_
 refine h_tk (i := 14) (ls := #[T1,T1,T1,T1,T1,T1,T1,T1,T1,T1,T1,T1,T1,T1,T1,F0,F0,F0,F0,F0,F0,F0]) rfl (p_load (i := 1) (v := .slice ab_0 b.young.length cb_0) rfl rfl sh26 rfl) (dp (lz (lj (lj (lj (lj (ln))))))) ?_
 refine h_tk (i := 15) (ls := #[T1,T1,T1,T1,T1,T1,T1,T1,T1,T1,T1,T1,T1,T1,T1,T1,F0,F0,F0,F0,F0,F0]) rfl (p_move rfl) (dp (lz (lj (lj (lj (lj (ln))))))) ?_
 refine h_tk (i := 16) (ls := #[T1,T1,T1,T1,T1,T1,T1,T1,T1,T1,T1,T1,T1,T1,T1,T1,T1,F0,F0,F0,F0,F0]) rfl (p_nilCheck rfl) (dp (lz (lj (lj (lj (lj (ln))))))) ?_
 refine h_tk (i := 17) (ls := #[T1,T1,T1,T1,T1,T1,T1,T1,T1,T1,T1,T1,T1,T1,T1,T1,T1,T1,F0,F0,F0,F0]) rfl (p_fieldAddr (j' := 2) rfl fo152_1 rfl) (dp (lz (lj (lj (lj (lj (ln))))))) ?_
 refine h_tk (i := 18) (ls := #[T1,T1,T1,T1,T1,T1,T1,T1,T1,T1,T1,T1,T1,T1,T1,T1,T1,T1,T1,F0,F0,F0]) rfl (p_fieldAddr (j' := 2) rfl fo150_0 rfl) (dp (lz (lj (lj (lj (lj (ln))))))) ?_
 refine h_tk (i := 19) (ls := #[T1,T1,T1,T1,T1,T1,T1,T1,T1,T1,T1,T1,T1,T1,T1,T1,T1,T1,T1,T1,F0,F0]) rfl (p_load (i := 1) (v := .slice ab_1 b.old.length cb_1) rfl rfl sh26 rfl) (dp (lz (lj (lj (lj (lj (ln))))))) ?_
 refine h_tk (i := 20) (ls := #[T1,T1,T1,T1,T1,T1,T1,T1,T1,T1,T1,T1,T1,T1,T1,T1,T1,T1,T1,T1,T1,F0]) rfl (p_build (cells := [Vi b.first, Vi b.second, .slice ab_0 b.young.length cb_0, .slice ab_1 b.old.length cb_1]) fp71 ze71 rfl rfl) (dp (lz (lj (lj (lj (lj (ln))))))) ?_
 refine h_one (i := 21) (ls := #[T1,T1,T1,T1,T1,T1,T1,T1,T1,T1,T1,T1,T1,T1,T1,T1,T1,T1,T1,T1,T1,T1]) (by kernel_rfl) rfl rfl ?_
 refine o_storeN (i := 0) (vs := [Vi b.first, Vi b.second, .slice ab_0 b.young.length cb_0, .slice ab_1 b.old.length cb_1]) (cs' := [Vi b.first, Vi b.second, .slice ab_0 b.young.length cb_0, .slice ab_1 b.old.length cb_1]) rfl rfl rfl sz71 rfl rfl rfl rfl ?_
 refine o_nil ?_
 refine h_next (dp (lz (lj (lj (lj (lj (ln))))))) ?_
 refine h_done (by kernel_rfl) ?_
 refine q_then (c_ret ?_)
 refine q_endX (p := (ab_0, cb_0, Sb_0, ab_1, cb_1, Sb_1)) (rt1 rfl (r_cell (i := 0) rfl rfl sh71 rfl)) ?_ (fun w hw => ?_)
 ·exact rfl
 ·have h2 := hw.pick (H' := [outer w0 [box Bb [.slice ab_0 b.young.length cb_0, Vi b.first, .slice ab_1 b.old.length cb_1, Vi b.second] 152, own tInt Sb_0 ab_0 cb_0 b.young, own tInt Sb_1 ab_1 cb_1 b.old], own tInt Sb_0 ab_0 cb_0 b.young, own tInt Sb_1 ab_1 cb_1 b.old]) [1, 3, 4] (by decide) rfl
  exact Eq.mp (congrArg (fun z => HeapIs w0 ((outer w0 [box Bb [.slice ab_0 b.young.length cb_0, Vi b.first, .slice ab_1 b.old.length cb_1, Vi b.second] 152, own tInt Sb_0 ab_0 cb_0 b.young, own tInt Sb_1 ab_1 cb_1 b.old]) :: z) w) (rfl)) h2

set_option maxHeartbeats 8000000 in
set_option maxRecDepth 100000 in
theorem stouch_ok (b : DHalls) (Bb : Nat) (ab_0 : Option Addr) (cb_0 : Nat) (Sb_0 : Nat → Prop) (ab_1 : Option Addr) (cb_1 : Nat) (Sb_1 : Nat → Prop) (key : Int) (hy1 : Seg.Ok b) : FnX Tryz.prog 65 [.pointer (some ⟨Bb, 0, none⟩), Vi key] [box Bb [.slice ab_0 b.young.length cb_0, Vi b.first, .slice ab_1 b.old.length cb_1, Vi b.second] 152, own tInt Sb_0 ab_0 cb_0 b.young, own tInt Sb_1 ab_1 cb_1 b.old] (fun _ => True) (Option Addr × Nat × (Nat → Prop) × Option Addr × Nat × (Nat → Prop) × Option Addr × Nat × (Nat → Prop)) (fun p => .tuple #[.bool ((Seg.touch b key).2.1), .slice p.2.2.2.2.2.2.1 ((Seg.touch b key).2.2).length p.2.2.2.2.2.2.2.1]) (fun p => [box Bb [.slice p.1 (((Seg.touch b key).1).young).length p.2.1, Vi (((Seg.touch b key).1).first), .slice p.2.2.2.1 (((Seg.touch b key).1).old).length p.2.2.2.2.1, Vi (((Seg.touch b key).1).second)] 152, own tInt p.2.2.1 p.1 p.2.1 (((Seg.touch b key).1).young), own tInt p.2.2.2.2.2.1 p.2.2.2.1 p.2.2.2.2.1 (((Seg.touch b key).1).old), own tInt p.2.2.2.2.2.2.2.2 p.2.2.2.2.2.2.1 p.2.2.2.2.2.2.2.1 ((Seg.touch b key).2.2)]) := by
 refine fnX (nt := 28) (F0 := [(0, .pointer (some ⟨Bb, 0, none⟩)), (1, Vi key)]) Tryz.func65 rfl Tryz.ntmps65 rfl rfl (fun w0 hpre => ?_)
 refine c_know (fun w hw => own_len (i := 2) (T := tInt) hw rfl) (fun hlown_b_0 => ?_)
 obtain ⟨hcown_b_0, hlown_b_0⟩ := hlown_b_0
 refine c_know (fun w hw => own_len (i := 3) (T := tInt) hw rfl) (fun hlown_b_1 => ?_)
 obtain ⟨hcown_b_1, hlown_b_1⟩ := hlown_b_1
 have hfr := hy1.first
 have hse := hy1.second
 have hl1 := hy1.len1
 have hl2 := hy1.len2
 have he1 := List.length_erase_le (a := key) (l := b.young)
 have he2 := List.length_erase_le (a := key) (l := b.old)
 refine c_seq (c_region ?_)
 refine o_as rfl rfl ?_
 refine o_as rfl rfl ?_
 refine o_nil (q_then (c_seq (c_seq (c_region ?_))))
 refine o_mv rfl rfl ?_
 refine o_p (p_nilCheck rfl) ?_
 refine o_p (p_fieldAddr (j' := 2) rfl fo152_1 rfl) ?_
 refine o_mv rfl rfl ?_
 refine o_pick (H' := [box Bb [.slice ab_0 b.young.length cb_0, Vi b.first, .slice ab_1 b.old.length cb_1, Vi b.second] 152, own tInt Sb_0 ab_0 cb_0 b.young, own tInt Sb_1 ab_1 cb_1 b.old, outer w0 [box Bb [.slice ab_0 b.young.length cb_0, Vi b.first, .slice ab_1 b.old.length cb_1, Vi b.second] 152, own tInt Sb_0 ab_0 cb_0 b.young, own tInt Sb_1 ab_1 cb_1 b.old]]) [1, 2, 3, 0] (by decide) rfl ?_
 refine o_callX (pre := [box Bb [.slice ab_0 b.young.length cb_0, Vi b.first, .slice ab_1 b.old.length cb_1, Vi b.second] 152, own tInt Sb_0 ab_0 cb_0 b.young, own tInt Sb_1 ab_1 cb_1 b.old]) (R := [outer w0 [box Bb [.slice ab_0 b.young.length cb_0, Vi b.first, .slice ab_1 b.old.length cb_1, Vi b.second] 152, own tInt Sb_0 ab_0 cb_0 b.young, own tInt Sb_1 ab_1 cb_1 b.old]]) rfl (leave_old_ok b Bb ab_0 cb_0 Sb_0 ab_1 cb_1 Sb_1 key) hf105 rfl (fun _ _ => trivial) rfl ?_
 rintro ⟨a1, c2, S3, a4, c5, S6⟩
 refine o_asH (H' := [box Bb [.slice a1 b.young.length c2, Vi b.first, .slice a4 (b.old.erase key).length c5, Vi b.second] 152, own tInt S3 a1 c2 b.young, own tInt S6 a4 c5 (b.old.erase key), outer w0 [box Bb [.slice ab_0 b.young.length cb_0, Vi b.first, .slice ab_1 b.old.length cb_1, Vi b.second] 152, own tInt Sb_0 ab_0 cb_0 b.young, own tInt Sb_1 ab_1 cb_1 b.old]]) rfl ?_
 refine o_mv rfl rfl ?_
 rcases Bool.eq_false_or_eq_true ((decide (key ∈ b.old))) with hb9 | hb9
 ·rw [hb9]
  have ho : key ∈ b.old := by simpa using hb9
  refine o_guard_no rfl 11 rfl rfl rfl rfl rfl ?_
  refine o_guard_no rfl 11 rfl rfl rfl rfl rfl ?_
  refine o_guard_no rfl 11 rfl rfl rfl rfl rfl ?_
  refine o_guard_no rfl 11 rfl rfl rfl rfl rfl ?_
  refine o_guard_no rfl 11 rfl rfl rfl rfl rfl ?_
  refine o_pt rfl rfl rfl ?_
  refine o_nil (q_then ?_)
  refine c_true rfl ?_
  refine c_seq (c_region ?_)
  refine o_mv rfl rfl ?_
  refine o_p (p_nilCheck rfl) ?_
  refine o_p (p_fieldAddr (j' := 2) rfl fo152_1 rfl) ?_
  refine o_mv rfl rfl ?_
  refine o_callX (pre := [box Bb [.slice a1 b.young.length c2, Vi b.first, .slice a4 (b.old.erase key).length c5, Vi b.second] 152, own tInt S3 a1 c2 b.young, own tInt S6 a4 c5 (b.old.erase key)]) (R := [outer w0 [box Bb [.slice ab_0 b.young.length cb_0, Vi b.first, .slice ab_1 b.old.length cb_1, Vi b.second] 152, own tInt Sb_0 ab_0 cb_0 b.young, own tInt Sb_1 ab_1 cb_1 b.old]]) rfl (enter_old_ok (⟨b.first, b.second, b.young, b.old.erase key⟩ : DHalls) Bb a1 c2 S3 a4 c5 S6 key (by first | omega | (dsimp only; omega))) hf106 rfl (fun _ _ => trivial) rfl ?_
  rintro ⟨a10, c11, S12, a13, c14, S15, a16, c17, S18⟩
  refine o_asH (H' := [box Bb [.slice a10 b.young.length c11, Vi b.first, .slice a13 ((key :: (b.old.erase key)).take b.second.toNat).length c14, Vi b.second] 152, own tInt S12 a10 c11 b.young, own tInt S15 a13 c14 ((key :: (b.old.erase key)).take b.second.toNat), own tInt S18 a16 c17 ((key :: (b.old.erase key)).drop b.second.toNat), outer w0 [box Bb [.slice ab_0 b.young.length cb_0, Vi b.first, .slice ab_1 b.old.length cb_1, Vi b.second] 152, own tInt Sb_0 ab_0 cb_0 b.young, own tInt Sb_1 ab_1 cb_1 b.old]]) rfl ?_
  refine o_as rfl rfl ?_
  refine o_as rfl rfl ?_
  refine o_nil (q_then (c_ret ?_))
  refine q_then_ret ?_
  have hr0 : (b.young : List Int) = ((Seg.touch b key).1).young := by
   first | (rw [Seg.touch_old ho hy1.once]; done) | (rw [Seg.touch_young ho hyy]; done) | (rw [Seg.touch_young ho hyy, List.erase_of_not_mem ho]; done) | (rw [Seg.touch_new ho hyy]; done) | (rw [Seg.touch_new ho hyy, List.erase_of_not_mem hyy]; done) | (rw [Seg.touch_new ho hyy, List.erase_of_not_mem ho]; done)
  have hr1 : (b.first : Int) = ((Seg.touch b key).1).first := by
   first | (rw [Seg.touch_old ho hy1.once]; done) | (rw [Seg.touch_young ho hyy]; done) | (rw [Seg.touch_young ho hyy, List.erase_of_not_mem ho]; done) | (rw [Seg.touch_new ho hyy]; done) | (rw [Seg.touch_new ho hyy, List.erase_of_not_mem hyy]; done) | (rw [Seg.touch_new ho hyy, List.erase_of_not_mem ho]; done)
  have hr2 : ((key :: (b.old.erase key)).take b.second.toNat : List Int) = ((Seg.touch b key).1).old := by
   first | (rw [Seg.touch_old ho hy1.once]; done) | (rw [Seg.touch_young ho hyy]; done) | (rw [Seg.touch_young ho hyy, List.erase_of_not_mem ho]; done) | (rw [Seg.touch_new ho hyy]; done) | (rw [Seg.touch_new ho hyy, List.erase_of_not_mem hyy]; done) | (rw [Seg.touch_new ho hyy, List.erase_of_not_mem ho]; done)
  have hr3 : (b.second : Int) = ((Seg.touch b key).1).second := by
   first | (rw [Seg.touch_old ho hy1.once]; done) | (rw [Seg.touch_young ho hyy]; done) | (rw [Seg.touch_young ho hyy, List.erase_of_not_mem ho]; done) | (rw [Seg.touch_new ho hyy]; done) | (rw [Seg.touch_new ho hyy, List.erase_of_not_mem hyy]; done) | (rw [Seg.touch_new ho hyy, List.erase_of_not_mem ho]; done)
  have hr4 : (true : Bool) = ((Seg.touch b key).2.1) := by
   first | (rw [Seg.touch_old ho hy1.once]; done) | (rw [Seg.touch_young ho hyy]; done) | (rw [Seg.touch_young ho hyy, List.erase_of_not_mem ho]; done) | (rw [Seg.touch_new ho hyy]; done) | (rw [Seg.touch_new ho hyy, List.erase_of_not_mem hyy]; done) | (rw [Seg.touch_new ho hyy, List.erase_of_not_mem ho]; done)
  have hr5 : (((key :: (b.old.erase key)).drop b.second.toNat) : List Int) = ((Seg.touch b key).2.2) := by
   first | (rw [Seg.touch_old ho hy1.once]; done) | (rw [Seg.touch_young ho hyy]; done) | (rw [Seg.touch_young ho hyy, List.erase_of_not_mem ho]; done) | (rw [Seg.touch_new ho hyy]; done) | (rw [Seg.touch_new ho hyy, List.erase_of_not_mem hyy]; done) | (rw [Seg.touch_new ho hyy, List.erase_of_not_mem ho]; done)
  refine q_endX (p := (a10, c11, S12, a13, c14, S15, a16, c17, S18)) (rt2 rfl (r_tmp rfl) (r_tmp rfl)) ?_ (fun w hw => ?_)
  ·exact (by have hcc := congr (congr (congr (congr (congr (congrArg (fun (y0 : List Int) (y1 : Int) (y2 : List Int) (y3 : Int) (y4 : Bool) (y5 : List Int) => (.tuple #[.bool y4, .slice a16 y5.length c17] : Value)) hr0) hr1) hr2) hr3) hr4) hr5; exact hcc)
  ·have h2 := hw.pick (H' := [outer w0 [box Bb [.slice ab_0 b.young.length cb_0, Vi b.first, .slice ab_1 b.old.length cb_1, Vi b.second] 152, own tInt Sb_0 ab_0 cb_0 b.young, own tInt Sb_1 ab_1 cb_1 b.old], box Bb [.slice a10 b.young.length c11, Vi b.first, .slice a13 ((key :: (b.old.erase key)).take b.second.toNat).length c14, Vi b.second] 152, own tInt S12 a10 c11 b.young, own tInt S15 a13 c14 ((key :: (b.old.erase key)).take b.second.toNat), own tInt S18 a16 c17 ((key :: (b.old.erase key)).drop b.second.toNat)]) [4, 0, 1, 2, 3] (by decide) rfl
   exact Eq.mp (congrArg (fun z => HeapIs w0 ((outer w0 [box Bb [.slice ab_0 b.young.length cb_0, Vi b.first, .slice ab_1 b.old.length cb_1, Vi b.second] 152, own tInt Sb_0 ab_0 cb_0 b.young, own tInt Sb_1 ab_1 cb_1 b.old]) :: z) w) ((by have hcc := congr (congr (congr (congr (congr (congrArg (fun (y0 : List Int) (y1 : Int) (y2 : List Int) (y3 : Int) (y4 : Bool) (y5 : List Int) => ([box Bb [.slice a10 y0.length c11, .int .i64 y1, .slice a13 y2.length c14, .int .i64 y3] 152, own tInt S12 a10 c11 y0, own tInt S15 a13 c14 y2, own tInt S18 a16 c17 y5] : List Ent)) hr0) hr1) hr2) hr3) hr4) hr5; exact hcc))) h2
 ·rw [hb9]
  have ho : key ∉ b.old := by simpa using hb9
  refine o_unguard 11 rfl rfl ?_
  refine o_mv rfl rfl ?_
  refine o_unguard 11 rfl rfl ?_
  refine o_p (p_nilCheck rfl) ?_
  refine o_unguard 11 rfl rfl ?_
  refine o_p (p_fieldAddr (j' := 0) rfl fo152_0 rfl) ?_
  refine o_unguard 11 rfl rfl ?_
  refine o_mv rfl rfl ?_
  refine o_unguard 11 rfl rfl ?_
  refine o_callX (pre := [box Bb [.slice a1 b.young.length c2, Vi b.first, .slice a4 (b.old.erase key).length c5, Vi b.second] 152, own tInt S3 a1 c2 b.young, own tInt S6 a4 c5 (b.old.erase key)]) (R := [outer w0 [box Bb [.slice ab_0 b.young.length cb_0, Vi b.first, .slice ab_1 b.old.length cb_1, Vi b.second] 152, own tInt Sb_0 ab_0 cb_0 b.young, own tInt Sb_1 ab_1 cb_1 b.old]]) rfl (leave_young_ok (⟨b.first, b.second, b.young, b.old.erase key⟩ : DHalls) Bb a1 c2 S3 a4 c5 S6 key) hf105 rfl (fun _ _ => trivial) rfl ?_
  rintro ⟨a22, c23, S24, a25, c26, S27⟩
  refine o_asH (H' := [box Bb [.slice a22 (b.young.erase key).length c23, Vi b.first, .slice a25 (b.old.erase key).length c26, Vi b.second] 152, own tInt S24 a22 c23 (b.young.erase key), own tInt S27 a25 c26 (b.old.erase key), outer w0 [box Bb [.slice ab_0 b.young.length cb_0, Vi b.first, .slice ab_1 b.old.length cb_1, Vi b.second] 152, own tInt Sb_0 ab_0 cb_0 b.young, own tInt Sb_1 ab_1 cb_1 b.old]]) rfl ?_
  refine o_pf rfl rfl rfl ?_
  refine o_nil (q_then ?_)
  refine c_cond rfl (fun hc30 => ?_) (fun hc30 => ?_)
  ·simp only [decide_eq_true_eq] at hc30
   have hyy : key ∈ b.young := by simpa using hc30
   refine c_seq (c_region ?_)
   refine o_mv rfl rfl ?_
   refine o_p (p_nilCheck rfl) ?_
   refine o_p (p_fieldAddr (j' := 2) rfl fo152_1 rfl) ?_
   refine o_mv rfl rfl ?_
   refine o_callX (pre := [box Bb [.slice a22 (b.young.erase key).length c23, Vi b.first, .slice a25 (b.old.erase key).length c26, Vi b.second] 152, own tInt S24 a22 c23 (b.young.erase key), own tInt S27 a25 c26 (b.old.erase key)]) (R := [outer w0 [box Bb [.slice ab_0 b.young.length cb_0, Vi b.first, .slice ab_1 b.old.length cb_1, Vi b.second] 152, own tInt Sb_0 ab_0 cb_0 b.young, own tInt Sb_1 ab_1 cb_1 b.old]]) rfl (enter_old_ok (⟨b.first, b.second, b.young.erase key, (b.old.erase key)⟩ : DHalls) Bb a22 c23 S24 a25 c26 S27 key (by first | omega | (dsimp only; omega))) hf106 rfl (fun _ _ => trivial) rfl ?_
   rintro ⟨a31, c32, S33, a34, c35, S36, a37, c38, S39⟩
   refine o_asH (H' := [box Bb [.slice a31 (b.young.erase key).length c32, Vi b.first, .slice a34 ((key :: (b.old.erase key)).take b.second.toNat).length c35, Vi b.second] 152, own tInt S33 a31 c32 (b.young.erase key), own tInt S36 a34 c35 ((key :: (b.old.erase key)).take b.second.toNat), own tInt S39 a37 c38 ((key :: (b.old.erase key)).drop b.second.toNat), outer w0 [box Bb [.slice ab_0 b.young.length cb_0, Vi b.first, .slice ab_1 b.old.length cb_1, Vi b.second] 152, own tInt Sb_0 ab_0 cb_0 b.young, own tInt Sb_1 ab_1 cb_1 b.old]]) rfl ?_
   refine o_as rfl rfl ?_
   refine o_as rfl rfl ?_
   refine o_nil (q_then (c_ret ?_))
   refine q_then_ret ?_
   have hr0 : ((b.young.erase key) : List Int) = ((Seg.touch b key).1).young := by
    first | (rw [Seg.touch_old ho hy1.once]; done) | (rw [Seg.touch_young ho hyy]; done) | (rw [Seg.touch_young ho hyy, List.erase_of_not_mem ho]; done) | (rw [Seg.touch_new ho hyy]; done) | (rw [Seg.touch_new ho hyy, List.erase_of_not_mem hyy]; done) | (rw [Seg.touch_new ho hyy, List.erase_of_not_mem ho]; done)
   have hr1 : (b.first : Int) = ((Seg.touch b key).1).first := by
    first | (rw [Seg.touch_old ho hy1.once]; done) | (rw [Seg.touch_young ho hyy]; done) | (rw [Seg.touch_young ho hyy, List.erase_of_not_mem ho]; done) | (rw [Seg.touch_new ho hyy]; done) | (rw [Seg.touch_new ho hyy, List.erase_of_not_mem hyy]; done) | (rw [Seg.touch_new ho hyy, List.erase_of_not_mem ho]; done)
   have hr2 : ((key :: (b.old.erase key)).take b.second.toNat : List Int) = ((Seg.touch b key).1).old := by
    first | (rw [Seg.touch_old ho hy1.once]; done) | (rw [Seg.touch_young ho hyy]; done) | (rw [Seg.touch_young ho hyy, List.erase_of_not_mem ho]; done) | (rw [Seg.touch_new ho hyy]; done) | (rw [Seg.touch_new ho hyy, List.erase_of_not_mem hyy]; done) | (rw [Seg.touch_new ho hyy, List.erase_of_not_mem ho]; done)
   have hr3 : (b.second : Int) = ((Seg.touch b key).1).second := by
    first | (rw [Seg.touch_old ho hy1.once]; done) | (rw [Seg.touch_young ho hyy]; done) | (rw [Seg.touch_young ho hyy, List.erase_of_not_mem ho]; done) | (rw [Seg.touch_new ho hyy]; done) | (rw [Seg.touch_new ho hyy, List.erase_of_not_mem hyy]; done) | (rw [Seg.touch_new ho hyy, List.erase_of_not_mem ho]; done)
   have hr4 : (true : Bool) = ((Seg.touch b key).2.1) := by
    first | (rw [Seg.touch_old ho hy1.once]; done) | (rw [Seg.touch_young ho hyy]; done) | (rw [Seg.touch_young ho hyy, List.erase_of_not_mem ho]; done) | (rw [Seg.touch_new ho hyy]; done) | (rw [Seg.touch_new ho hyy, List.erase_of_not_mem hyy]; done) | (rw [Seg.touch_new ho hyy, List.erase_of_not_mem ho]; done)
   have hr5 : (((key :: (b.old.erase key)).drop b.second.toNat) : List Int) = ((Seg.touch b key).2.2) := by
    first | (rw [Seg.touch_old ho hy1.once]; done) | (rw [Seg.touch_young ho hyy]; done) | (rw [Seg.touch_young ho hyy, List.erase_of_not_mem ho]; done) | (rw [Seg.touch_new ho hyy]; done) | (rw [Seg.touch_new ho hyy, List.erase_of_not_mem hyy]; done) | (rw [Seg.touch_new ho hyy, List.erase_of_not_mem ho]; done)
   refine q_endX (p := (a31, c32, S33, a34, c35, S36, a37, c38, S39)) (rt2 rfl (r_tmp rfl) (r_tmp rfl)) ?_ (fun w hw => ?_)
   ·exact (by have hcc := congr (congr (congr (congr (congr (congrArg (fun (y0 : List Int) (y1 : Int) (y2 : List Int) (y3 : Int) (y4 : Bool) (y5 : List Int) => (.tuple #[.bool y4, .slice a37 y5.length c38] : Value)) hr0) hr1) hr2) hr3) hr4) hr5; exact hcc)
   ·have h2 := hw.pick (H' := [outer w0 [box Bb [.slice ab_0 b.young.length cb_0, Vi b.first, .slice ab_1 b.old.length cb_1, Vi b.second] 152, own tInt Sb_0 ab_0 cb_0 b.young, own tInt Sb_1 ab_1 cb_1 b.old], box Bb [.slice a31 (b.young.erase key).length c32, Vi b.first, .slice a34 ((key :: (b.old.erase key)).take b.second.toNat).length c35, Vi b.second] 152, own tInt S33 a31 c32 (b.young.erase key), own tInt S36 a34 c35 ((key :: (b.old.erase key)).take b.second.toNat), own tInt S39 a37 c38 ((key :: (b.old.erase key)).drop b.second.toNat)]) [4, 0, 1, 2, 3] (by decide) rfl
    exact Eq.mp (congrArg (fun z => HeapIs w0 ((outer w0 [box Bb [.slice ab_0 b.young.length cb_0, Vi b.first, .slice ab_1 b.old.length cb_1, Vi b.second] 152, own tInt Sb_0 ab_0 cb_0 b.young, own tInt Sb_1 ab_1 cb_1 b.old]) :: z) w) ((by have hcc := congr (congr (congr (congr (congr (congrArg (fun (y0 : List Int) (y1 : Int) (y2 : List Int) (y3 : Int) (y4 : Bool) (y5 : List Int) => ([box Bb [.slice a31 y0.length c32, .int .i64 y1, .slice a34 y2.length c35, .int .i64 y3] 152, own tInt S33 a31 c32 y0, own tInt S36 a34 c35 y2, own tInt S39 a37 c38 y5] : List Ent)) hr0) hr1) hr2) hr3) hr4) hr5; exact hcc))) h2
  ·simp only [decide_eq_false_iff_not] at hc30
   have hyy : key ∉ b.young := by simpa using hc30
   refine c_skip (q_then (c_seq (c_region ?_)))
   refine o_mv rfl rfl ?_
   refine o_p (p_nilCheck rfl) ?_
   refine o_p (p_fieldAddr (j' := 0) rfl fo152_0 rfl) ?_
   refine o_mv rfl rfl ?_
   refine o_callX (pre := [box Bb [.slice a22 (b.young.erase key).length c23, Vi b.first, .slice a25 (b.old.erase key).length c26, Vi b.second] 152, own tInt S24 a22 c23 (b.young.erase key), own tInt S27 a25 c26 (b.old.erase key)]) (R := [outer w0 [box Bb [.slice ab_0 b.young.length cb_0, Vi b.first, .slice ab_1 b.old.length cb_1, Vi b.second] 152, own tInt Sb_0 ab_0 cb_0 b.young, own tInt Sb_1 ab_1 cb_1 b.old]]) rfl (enter_young_ok (⟨b.first, b.second, b.young.erase key, (b.old.erase key)⟩ : DHalls) Bb a22 c23 S24 a25 c26 S27 key (by first | omega | (dsimp only; omega))) hf106 rfl (fun _ _ => trivial) rfl ?_
   rintro ⟨a43, c44, S45, a46, c47, S48, a49, c50, S51⟩
   refine o_asH (H' := [box Bb [.slice a43 ((key :: (b.young.erase key)).take b.first.toNat).length c44, Vi b.first, .slice a46 (b.old.erase key).length c47, Vi b.second] 152, own tInt S45 a43 c44 ((key :: (b.young.erase key)).take b.first.toNat), own tInt S48 a46 c47 (b.old.erase key), own tInt S51 a49 c50 ((key :: (b.young.erase key)).drop b.first.toNat), outer w0 [box Bb [.slice ab_0 b.young.length cb_0, Vi b.first, .slice ab_1 b.old.length cb_1, Vi b.second] 152, own tInt Sb_0 ab_0 cb_0 b.young, own tInt Sb_1 ab_1 cb_1 b.old]]) rfl ?_
   refine o_as rfl rfl ?_
   refine o_as rfl rfl ?_
   refine o_nil (q_then (c_ret ?_))
   have hr0 : ((key :: (b.young.erase key)).take b.first.toNat : List Int) = ((Seg.touch b key).1).young := by
    first | (rw [Seg.touch_old ho hy1.once]; done) | (rw [Seg.touch_young ho hyy]; done) | (rw [Seg.touch_young ho hyy, List.erase_of_not_mem ho]; done) | (rw [Seg.touch_new ho hyy]; done) | (rw [Seg.touch_new ho hyy, List.erase_of_not_mem hyy]; done) | (rw [Seg.touch_new ho hyy, List.erase_of_not_mem ho]; done)
   have hr1 : (b.first : Int) = ((Seg.touch b key).1).first := by
    first | (rw [Seg.touch_old ho hy1.once]; done) | (rw [Seg.touch_young ho hyy]; done) | (rw [Seg.touch_young ho hyy, List.erase_of_not_mem ho]; done) | (rw [Seg.touch_new ho hyy]; done) | (rw [Seg.touch_new ho hyy, List.erase_of_not_mem hyy]; done) | (rw [Seg.touch_new ho hyy, List.erase_of_not_mem ho]; done)
   have hr2 : ((b.old.erase key) : List Int) = ((Seg.touch b key).1).old := by
    first | (rw [Seg.touch_old ho hy1.once]; done) | (rw [Seg.touch_young ho hyy]; done) | (rw [Seg.touch_young ho hyy, List.erase_of_not_mem ho]; done) | (rw [Seg.touch_new ho hyy]; done) | (rw [Seg.touch_new ho hyy, List.erase_of_not_mem hyy]; done) | (rw [Seg.touch_new ho hyy, List.erase_of_not_mem ho]; done)
   have hr3 : (b.second : Int) = ((Seg.touch b key).1).second := by
    first | (rw [Seg.touch_old ho hy1.once]; done) | (rw [Seg.touch_young ho hyy]; done) | (rw [Seg.touch_young ho hyy, List.erase_of_not_mem ho]; done) | (rw [Seg.touch_new ho hyy]; done) | (rw [Seg.touch_new ho hyy, List.erase_of_not_mem hyy]; done) | (rw [Seg.touch_new ho hyy, List.erase_of_not_mem ho]; done)
   have hr4 : (false : Bool) = ((Seg.touch b key).2.1) := by
    first | (rw [Seg.touch_old ho hy1.once]; done) | (rw [Seg.touch_young ho hyy]; done) | (rw [Seg.touch_young ho hyy, List.erase_of_not_mem ho]; done) | (rw [Seg.touch_new ho hyy]; done) | (rw [Seg.touch_new ho hyy, List.erase_of_not_mem hyy]; done) | (rw [Seg.touch_new ho hyy, List.erase_of_not_mem ho]; done)
   have hr5 : (((key :: (b.young.erase key)).drop b.first.toNat) : List Int) = ((Seg.touch b key).2.2) := by
    first | (rw [Seg.touch_old ho hy1.once]; done) | (rw [Seg.touch_young ho hyy]; done) | (rw [Seg.touch_young ho hyy, List.erase_of_not_mem ho]; done) | (rw [Seg.touch_new ho hyy]; done) | (rw [Seg.touch_new ho hyy, List.erase_of_not_mem hyy]; done) | (rw [Seg.touch_new ho hyy, List.erase_of_not_mem ho]; done)
   refine q_endX (p := (a43, c44, S45, a46, c47, S48, a49, c50, S51)) (rt2 rfl (r_tmp rfl) (r_tmp rfl)) ?_ (fun w hw => ?_)
   ·exact (by have hcc := congr (congr (congr (congr (congr (congrArg (fun (y0 : List Int) (y1 : Int) (y2 : List Int) (y3 : Int) (y4 : Bool) (y5 : List Int) => (.tuple #[.bool y4, .slice a49 y5.length c50] : Value)) hr0) hr1) hr2) hr3) hr4) hr5; exact hcc)
   ·have h2 := hw.pick (H' := [outer w0 [box Bb [.slice ab_0 b.young.length cb_0, Vi b.first, .slice ab_1 b.old.length cb_1, Vi b.second] 152, own tInt Sb_0 ab_0 cb_0 b.young, own tInt Sb_1 ab_1 cb_1 b.old], box Bb [.slice a43 ((key :: (b.young.erase key)).take b.first.toNat).length c44, Vi b.first, .slice a46 (b.old.erase key).length c47, Vi b.second] 152, own tInt S45 a43 c44 ((key :: (b.young.erase key)).take b.first.toNat), own tInt S48 a46 c47 (b.old.erase key), own tInt S51 a49 c50 ((key :: (b.young.erase key)).drop b.first.toNat)]) [4, 0, 1, 2, 3] (by decide) rfl
    exact Eq.mp (congrArg (fun z => HeapIs w0 ((outer w0 [box Bb [.slice ab_0 b.young.length cb_0, Vi b.first, .slice ab_1 b.old.length cb_1, Vi b.second] 152, own tInt Sb_0 ab_0 cb_0 b.young, own tInt Sb_1 ab_1 cb_1 b.old]) :: z) w) ((by have hcc := congr (congr (congr (congr (congr (congrArg (fun (y0 : List Int) (y1 : Int) (y2 : List Int) (y3 : Int) (y4 : Bool) (y5 : List Int) => ([box Bb [.slice a43 y0.length c44, .int .i64 y1, .slice a46 y2.length c47, .int .i64 y3] 152, own tInt S45 a43 c44 y0, own tInt S48 a46 c47 y2, own tInt S51 a49 c50 y5] : List Ent)) hr0) hr1) hr2) hr3) hr4) hr5; exact hcc))) h2

set_option maxHeartbeats 8000000 in
set_option maxRecDepth 100000 in
theorem srun_ok (h : DHalls) (ah_0 : Option Addr) (ch_0 : Nat) (ah_1 : Option Addr) (ch_1 : Nat) (l : List Int) (al : Option Addr) (cl : Nat) : FnM Tryz.prog 33 [.agg #[Vi h.first, Vi h.second, .slice ah_0 h.young.length ch_0, .slice ah_1 h.old.length ch_1], .slice al l.length cl] (fun w => Rd tInt w ah_0 ch_0 h.young ∧ Rd tInt w ah_1 ch_1 h.old ∧ Rd tInt w al cl l) (Option Addr × Nat × Option Addr × Nat) (fun p => .tuple #[.agg #[Vi (((Seg.run h l).1).first), Vi (((Seg.run h l).1).second), .slice p.1 (((Seg.run h l).1).young).length p.2.1, .slice p.2.2.1 (((Seg.run h l).1).old).length p.2.2.2], Vi ((Seg.run h l).2), Vi (Seg.runErr h l)]) (fun p S w => SlR tInt S w p.1 p.2.1 (((Seg.run h l).1).young) ∧ SlR tInt S w p.2.2.1 p.2.2.2 (((Seg.run h l).1).old)) := by
 refine fnM (nt := 45) (F0 := [(0, .agg #[Vi h.first, Vi h.second, .slice ah_0 h.young.length ch_0, .slice ah_1 h.old.length ch_1]), (1, .slice al l.length cl)]) Tryz.func33 rfl Tryz.ntmps33 rfl rfl (fun w0 hpre => ?_)
 obtain ⟨hh_0, hh_1, hl⟩ := hpre
 have hlhh_0 := hh_0.2.1
 have hlhh_1 := hh_1.2.1
 have hlhl := hl.2.1
 refine c_seq (c_region ?_)
 refine o_box (v := .agg #[Vi h.first, Vi h.second, .slice ah_0 h.young.length ch_0, .slice ah_1 h.old.length ch_1]) rfl rfl (fun B1 => ?_)
 refine o_alloc ze71 rfl (fun B2 => ?_)
 refine o_as rfl rfl ?_
 refine o_as rfl rfl ?_
 refine o_nil (q_then (c_seq (c_region ?_)))
 refine o_p (p_load_agg (i := 1) (vs := [Vi h.first, Vi h.second, .slice ah_0 h.young.length ch_0, .slice ah_1 h.old.length ch_1]) rfl rfl sh71 rfl rfl) ?_
 refine o_call0 (v := Vi (Seg.check h)) rfl (scheck_ok h ah_0 ch_0 ah_1 ch_1) hf63 (fun w hw => ⟨(rd_base (i := 2) rfl hh_0) w hw, (rd_base (i := 2) rfl hh_1) w hw⟩) rfl ?_
 refine o_as rfl rfl ?_
 refine o_nil (q_then (c_seq (c_seq (c_region ?_))))
 refine o_mv rfl rfl ?_
 refine o_p (p_eq rfl rfl) ?_
 refine o_nil (q_then ?_)
 refine c_cond rfl (fun hc3 => ?_) (fun hc3 => ?_)
 ·simp only [beq_iff_eq] at hc3
  have hck := hc3
  have hok := Seg.ok_of hck
  have hfr := hok.first
  have hse := hok.second
  have hl1 := hok.len1
  have hl2 := hok.len2
  refine c_region ?_
  refine o_mv rfl rfl ?_
  refine o_call0 (v := Vi (Lru.trace l)) rfl (checkTrace_ok l al cl) hf17 (fun w hw => (rd_base (i := 2) rfl hl) w hw) rfl ?_
  refine o_as rfl rfl ?_
  refine o_nil (q_then (c_seq (c_seq (c_region ?_))))
  refine o_mv rfl rfl ?_
  refine o_p (p_ne rfl rfl) ?_
  refine o_nil (q_then ?_)
  refine c_cond rfl (fun hc4 => ?_) (fun hc4 => ?_)
  ·simp only [bne_iff_ne, ne_eq] at hc4
   refine c_seq (c_region ?_)
   refine o_p (p_build (cells := [Vi 0, Vi 0, .slice none 0 0, .slice none 0 0]) fp71 ze71 rfl rfl) ?_
   refine o_mv rfl rfl ?_
   refine o_storeN (i := 0) (vs := [Vi 0, Vi 0, .slice none 0 0, .slice none 0 0]) (cs' := [Vi 0, Vi 0, .slice none 0 0, .slice none 0 0]) rfl rfl rfl sz71 rfl rfl rfl rfl ?_
   refine o_as rfl rfl ?_
   refine o_as rfl rfl ?_
   refine o_nil (q_then (c_ret ?_))
   refine q_then_ret ?_
   obtain ⟨ha, hae⟩ : _ ∧ _ := by first | exact Seg.run1 (c := h) (l := l) (by assumption) | exact Seg.run2 (c := h) (l := l) (by assumption) (by assumption) | (obtain ⟨h1, h2⟩ := Seg.run3 (c := h) (l := l) (by assumption) (by assumption); rw [hI.done (by omega)] at h1; exact ⟨h1, h2⟩)
   have hr0 : (0 : Int) = ((Seg.run h l).1).first := by
    first | (simp only [ha, hae, Seg.zero]; done) | (rw [ha]; done)
   have hr1 : (0 : Int) = ((Seg.run h l).1).second := by
    first | (simp only [ha, hae, Seg.zero]; done) | (rw [ha]; done)
   have hr2 : ([] : List Int) = ((Seg.run h l).1).young := by
    first | (simp only [ha, hae, Seg.zero]; done) | (rw [ha]; done)
   have hr3 : ([] : List Int) = ((Seg.run h l).1).old := by
    first | (simp only [ha, hae, Seg.zero]; done) | (rw [ha]; done)
   have hr4 : (0 : Int) = ((Seg.run h l).2) := by
    first | (simp only [ha, hae, Seg.zero]; done) | (rw [ha]; done)
   have hr5 : ((Lru.trace l) : Int) = (Seg.runErr h l) := by
    first | (simp only [ha, hae, Seg.zero]; done) | (rw [ha]; done)
   refine q_endM (p := (none, 0, none, 0)) (fun _ => False) (rt3 rfl (r_cell (i := 0) rfl rfl sh71 rfl) (r_tmp rfl) (r_tmp rfl)) (i := 2) rfl ?_ ?_ ?_
   ·exact (by have hcc := congr (congr (congr (congr (congr (congrArg (fun (y0 : Int) (y1 : Int) (y2 : List Int) (y3 : List Int) (y4 : Int) (y5 : Int) => (.tuple #[.agg #[.int .i64 y0, .int .i64 y1, .slice none y2.length 0, .slice none y3.length 0], .int .i64 y4, .int .i64 y5] : Value)) hr0) hr1) hr2) hr3) hr4) hr5; exact hcc)
   ·intro w hw b hb; exact hb.elim
   ·intro w hw; exact ⟨Eq.mp (congrArg (fun y => SlR tInt _ w none 0 y) hr2) (SlR.nil tInt _ w), Eq.mp (congrArg (fun y => SlR tInt _ w none 0 y) hr3) (SlR.nil tInt _ w)⟩
  ·simp only [bne_eq_false_iff_eq] at hc4
   refine c_skip (q_then (c_seq (c_region ?_)))
   refine o_p (p_load_agg (i := 1) (vs := [Vi h.first, Vi h.second, .slice ah_0 h.young.length ch_0, .slice ah_1 h.old.length ch_1]) rfl rfl sh71 rfl rfl) ?_
   refine o_callX (pre := []) (R := [box B2 [Vi 0, Vi 0, .slice none 0 0, .slice none 0 0] 71, box B1 [Vi h.first, Vi h.second, .slice ah_0 h.young.length ch_0, .slice ah_1 h.old.length ch_1] 71, base w0]) rfl (sowned_ok h ah_0 ch_0 ah_1 ch_1 (by omega)) hf64 rfl (fun w hw => ⟨(rdX (i := 2) (js := []) rfl (by decide) rfl (fun _ hA => slR_base hh_0 hA)) w hw, (rdX (i := 2) (js := []) rfl (by decide) rfl (fun _ hA => slR_base hh_1 hA)) w hw⟩) rfl ?_
   rintro ⟨B5, a6, c7, S8, a9, c10, S11⟩
   refine o_asH (H' := [box B5 [.slice a6 h.young.length c7, Vi h.first, .slice a9 h.old.length c10, Vi h.second] 152, own tInt S8 a6 c7 h.young, own tInt S11 a9 c10 h.old, box B2 [Vi 0, Vi 0, .slice none 0 0, .slice none 0 0] 71, box B1 [Vi h.first, Vi h.second, .slice ah_0 h.young.length ch_0, .slice ah_1 h.old.length ch_1] 71, base w0]) rfl ?_
   refine o_as rfl rfl ?_
   refine o_as rfl rfl ?_
   refine o_nil (q_then (c_seq (c_seq (c_region ?_))))
   refine o_mv rfl rfl ?_
   refine o_p (p_len_slice rfl rfl Tryz.underlying26) ?_
   refine o_mv rfl rfl ?_
   refine o_nil (q_then (c_block ?_))
   refine c_loop (St := Int × Nat × DHalls × Option Addr × Nat × (Nat → Prop) × Option Addr × Nat × (Nat → Prop))
    (fun ⟨hits, k, cc, acc_0, ccc_0, Scc_0, acc_1, ccc_1, Scc_1⟩ => [(4, .pointer (some ⟨B2, 0, none⟩)), (8, .pointer (some ⟨B5, 0, none⟩)), (9, Vi hits), (26, .slice al l.length cl), (27, Vi (l.length : Int)), (28, Vi (k : Int))])
    (fun ⟨hits, k, cc, acc_0, ccc_0, Scc_0, acc_1, ccc_1, Scc_1⟩ => [box B5 [.slice acc_0 cc.young.length ccc_0, Vi cc.first, .slice acc_1 cc.old.length ccc_1, Vi cc.second] 152, own tInt Scc_0 acc_0 ccc_0 cc.young, own tInt Scc_1 acc_1 ccc_1 cc.old, box B2 [Vi 0, Vi 0, .slice none 0 0, .slice none 0 0] 71, box B1 [Vi h.first, Vi h.second, .slice ah_0 h.young.length ch_0, .slice ah_1 h.old.length ch_1] 71, base w0])
    (fun ⟨hits, k, cc, acc_0, ccc_0, Scc_0, acc_1, ccc_1, Scc_1⟩ => Seg.RInv h cc l hits k)
    (fun ⟨hits, k, cc, acc_0, ccc_0, Scc_0, acc_1, ccc_1, Scc_1⟩ => l.length - k)
    (0, 0, h, a6, c7, S8, a9, c10, S11) ?_ (sr (sr (sr (sr (sr (sr (Sub.nil _))))))) (fun _ hw => hw) ?_
   ·exact Seg.RInv.start' (by assumption) (by assumption)
   rintro ⟨hits, k, cc, acc_0, ccc_0, Scc_0, acc_1, ccc_1, Scc_1⟩ hI K hK14
   have hn0 := hI.n0
   have hn1 := hI.n1
   show SC _ _ Tryz.prog 45 w0 _ _ [(4, .pointer (some ⟨B2, 0, none⟩)), (8, .pointer (some ⟨B5, 0, none⟩)), (9, Vi hits), (26, .slice al l.length cl), (27, Vi (l.length : Int)), (28, Vi (k : Int))] [box B5 [.slice acc_0 cc.young.length ccc_0, Vi cc.first, .slice acc_1 cc.old.length ccc_1, Vi cc.second] 152, own tInt Scc_0 acc_0 ccc_0 cc.young, own tInt Scc_1 acc_1 ccc_1 cc.old, box B2 [Vi 0, Vi 0, .slice none 0 0, .slice none 0 0] 71, box B1 [Vi h.first, Vi h.second, .slice ah_0 h.young.length ch_0, .slice ah_1 h.old.length ch_1] 71, base w0]
   refine c_seq (c_region ?_)
   refine o_p (p_lt rfl rfl) ?_
   refine o_nil (q_then (c_seq ?_))
   refine c_cond rfl (fun hc15 => ?_) (fun hc15 => ?_)
   ·simp only [decide_eq_true_eq] at hc15
    refine c_skip (q_then (c_seq (c_block (c_seq (c_region ?_)))))
    refine o_p (p_indexAddr (L := l) (T := tInt) (i := (k : Int)) rfl rfl (rd_base (i := 5) rfl hl) Tryz.underlying26 sz3 (by omega) (by omega)) ?_
    refine o_p (p_loadE1 (i := k) (T := tInt) (L := l) (v := Vi (l[k])) rfl (rd_base (i := 5) rfl hl) (by first | assumption | omega) sh3 rfl) ?_
    refine o_as rfl rfl ?_
    refine o_nil (q_then (c_seq (c_region ?_)))
    refine o_mv rfl rfl ?_
    refine o_mv rfl rfl ?_
    refine o_callX (pre := [box B5 [.slice acc_0 cc.young.length ccc_0, Vi cc.first, .slice acc_1 cc.old.length ccc_1, Vi cc.second] 152, own tInt Scc_0 acc_0 ccc_0 cc.young, own tInt Scc_1 acc_1 ccc_1 cc.old]) (R := [box B2 [Vi 0, Vi 0, .slice none 0 0, .slice none 0 0] 71, box B1 [Vi h.first, Vi h.second, .slice ah_0 h.young.length ch_0, .slice ah_1 h.old.length ch_1] 71, base w0]) rfl (stouch_ok cc B5 acc_0 ccc_0 Scc_0 acc_1 ccc_1 Scc_1 (l[k]) (by first | assumption | exact hI.ok | omega)) hf65 rfl (fun _ _ => trivial) rfl ?_
    rintro ⟨a16, c17, S18, a19, c20, S21, a22, c23, S24⟩
    refine o_asH (H' := [box B5 [.slice a16 (((Seg.touch cc (l[k])).1).young).length c17, Vi (((Seg.touch cc (l[k])).1).first), .slice a19 (((Seg.touch cc (l[k])).1).old).length c20, Vi (((Seg.touch cc (l[k])).1).second)] 152, own tInt S18 a16 c17 (((Seg.touch cc (l[k])).1).young), own tInt S21 a19 c20 (((Seg.touch cc (l[k])).1).old), own tInt S24 a22 c23 ((Seg.touch cc (l[k])).2.2), box B2 [Vi 0, Vi 0, .slice none 0 0, .slice none 0 0] 71, box B1 [Vi h.first, Vi h.second, .slice ah_0 h.young.length ch_0, .slice ah_1 h.old.length ch_1] 71, base w0]) rfl ?_
    refine o_mv rfl rfl ?_
    refine o_ex rfl rfl rfl ?_
    refine o_ex rfl rfl rfl ?_
    refine o_as rfl rfl ?_
    refine o_as rfl rfl ?_
    refine o_nil (q_then (c_seq (c_region ?_)))
    refine o_mv rfl rfl ?_
    refine o_nil (q_then ?_)
    refine c_cond rfl (fun hc28 => ?_) (fun hc28 => ?_)
    ·skip
     refine c_region ?_
     refine o_mv rfl rfl ?_
     refine o_p (p_addb rfl rfl (by omega)) ?_
     refine o_as rfl rfl ?_
     refine o_nil ?_
     refine q_block_normal (q_then ?_)
     refine c_region ?_
     refine o_p (p_addb rfl rfl (by omega)) ?_
     refine o_mv rfl rfl ?_
     refine o_nil ?_
     refine q_round hK14 ((hits + 1), k + 1, ((Seg.touch cc (l[k])).1), a16, c17, S18, a19, c20, S21) ?_ ?_ ?_ ?_
     ·clear hK14
      first | exact hI.hit (by omega) (by assumption) | exact hI.miss (by omega) (by assumption)
     ·(try dsimp only); omega
     ·exact sr (sr (sr (sr (sr (sr (Sub.nil _))))))
     ·exact pk [0, 1, 2, 4, 5, 6]
    ·skip
     refine c_skip ?_
     refine q_block_normal (q_then ?_)
     refine c_region ?_
     refine o_p (p_addb rfl rfl (by omega)) ?_
     refine o_mv rfl rfl ?_
     refine o_nil ?_
     refine q_round hK14 (hits, k + 1, ((Seg.touch cc (l[k])).1), a16, c17, S18, a19, c20, S21) ?_ ?_ ?_ ?_
     ·clear hK14
      first | exact hI.hit (by omega) (by assumption) | exact hI.miss (by omega) (by assumption)
     ·(try dsimp only); omega
     ·exact sr (sr (sr (sr (sr (sr (Sub.nil _))))))
     ·exact pk [0, 1, 2, 4, 5, 6]
   ·simp only [decide_eq_false_iff_not, Int.not_lt] at hc15
    refine c_exit ?_
    refine q_then_exit (q_then_exit (q_block_exit (q_then ?_)))
    refine c_seq (c_region ?_)
    refine o_mv rfl rfl ?_
    refine o_callX (pre := [box B5 [.slice acc_0 cc.young.length ccc_0, Vi cc.first, .slice acc_1 cc.old.length ccc_1, Vi cc.second] 152, own tInt Scc_0 acc_0 ccc_0 cc.young, own tInt Scc_1 acc_1 ccc_1 cc.old]) (R := [box B2 [Vi 0, Vi 0, .slice none 0 0, .slice none 0 0] 71, box B1 [Vi h.first, Vi h.second, .slice ah_0 h.young.length ch_0, .slice ah_1 h.old.length ch_1] 71, base w0]) rfl (shalls_ok cc B5 acc_0 ccc_0 Scc_0 acc_1 ccc_1 Scc_1) hf66 rfl (fun _ _ => trivial) rfl ?_
    rintro ⟨a29, c30, S31, a32, c33, S34⟩
    refine o_asH (H' := [own tInt S31 a29 c30 cc.young, own tInt S34 a32 c33 cc.old, box B2 [Vi 0, Vi 0, .slice none 0 0, .slice none 0 0] 71, box B1 [Vi h.first, Vi h.second, .slice ah_0 h.young.length ch_0, .slice ah_1 h.old.length ch_1] 71, base w0]) rfl ?_
    refine o_mv rfl rfl ?_
    refine o_storeN (i := 2) (vs := [Vi cc.first, Vi cc.second, .slice a29 cc.young.length c30, .slice a32 cc.old.length c33]) (cs' := [Vi cc.first, Vi cc.second, .slice a29 cc.young.length c30, .slice a32 cc.old.length c33]) rfl rfl rfl sz71 rfl rfl rfl rfl ?_
    refine o_as rfl rfl ?_
    refine o_as rfl rfl ?_
    refine o_nil (q_then (c_ret ?_))
    obtain ⟨ha, hae⟩ : _ ∧ _ := by first | exact Seg.run1 (c := h) (l := l) (by assumption) | exact Seg.run2 (c := h) (l := l) (by assumption) (by assumption) | (obtain ⟨h1, h2⟩ := Seg.run3 (c := h) (l := l) (by assumption) (by assumption); rw [hI.done (by omega)] at h1; exact ⟨h1, h2⟩)
    have hr0 : (cc.first : Int) = ((Seg.run h l).1).first := by
     first | (simp only [ha, hae, Seg.zero]; done) | (rw [ha]; done)
    have hr1 : (cc.second : Int) = ((Seg.run h l).1).second := by
     first | (simp only [ha, hae, Seg.zero]; done) | (rw [ha]; done)
    have hr2 : (cc.young : List Int) = ((Seg.run h l).1).young := by
     first | (simp only [ha, hae, Seg.zero]; done) | (rw [ha]; done)
    have hr3 : (cc.old : List Int) = ((Seg.run h l).1).old := by
     first | (simp only [ha, hae, Seg.zero]; done) | (rw [ha]; done)
    have hr4 : (hits : Int) = ((Seg.run h l).2) := by
     first | (simp only [ha, hae, Seg.zero]; done) | (rw [ha]; done)
    have hr5 : (0 : Int) = (Seg.runErr h l) := by
     first | (simp only [ha, hae, Seg.zero]; done) | (rw [ha]; done)
    refine q_endM (p := (a29, c30, a32, c33)) (fun b => S31 b ∨ S34 b) (rt3 rfl (r_cell (i := 2) rfl rfl sh71 rfl) (r_tmp rfl) (r_tmp rfl)) (i := 4) rfl ?_ ?_ ?_
    ·exact (by have hcc := congr (congr (congr (congr (congr (congrArg (fun (y0 : Int) (y1 : Int) (y2 : List Int) (y3 : List Int) (y4 : Int) (y5 : Int) => (.tuple #[.agg #[.int .i64 y0, .int .i64 y1, .slice a29 y2.length c30, .slice a32 y3.length c33], .int .i64 y4, .int .i64 y5] : Value)) hr0) hr1) hr2) hr3) hr4) hr5; exact hcc)
    ·intro w hw b hb; rcases hb with hb | hb
     ·exact hw.above (i := 4) (j := 0) (by decide) rfl rfl b hb
     ·exact hw.above (i := 4) (j := 1) (by decide) rfl rfl b hb
    ·intro w hw; exact ⟨Eq.mp (congrArg (fun y => SlR tInt _ w a29 c30 y) hr2) (SlR.mono (fun b hb => by simp [hb]) (SlO.toR (hw.at (i := 0) rfl).here)), Eq.mp (congrArg (fun y => SlR tInt _ w a32 c33 y) hr3) (SlR.mono (fun b hb => by simp [hb]) (SlO.toR (hw.at (i := 1) rfl).here))⟩
 ·simp only [beq_eq_false_iff_ne, ne_eq] at hc3
  refine c_skip (q_then (c_seq (c_seq (c_region ?_))))
  refine o_mv rfl rfl ?_
  refine o_p (p_ne rfl rfl) ?_
  refine o_nil (q_then ?_)
  refine c_cond rfl (fun hc37 => ?_) (fun hc37 => ?_)
  ·simp only [bne_iff_ne, ne_eq] at hc37
   refine c_seq (c_region ?_)
   refine o_p (p_build (cells := [Vi 0, Vi 0, .slice none 0 0, .slice none 0 0]) fp71 ze71 rfl rfl) ?_
   refine o_mv rfl rfl ?_
   refine o_storeN (i := 0) (vs := [Vi 0, Vi 0, .slice none 0 0, .slice none 0 0]) (cs' := [Vi 0, Vi 0, .slice none 0 0, .slice none 0 0]) rfl rfl rfl sz71 rfl rfl rfl rfl ?_
   refine o_as rfl rfl ?_
   refine o_as rfl rfl ?_
   refine o_nil (q_then (c_ret ?_))
   refine q_then_ret ?_
   obtain ⟨ha, hae⟩ : _ ∧ _ := by first | exact Seg.run1 (c := h) (l := l) (by assumption) | exact Seg.run2 (c := h) (l := l) (by assumption) (by assumption) | (obtain ⟨h1, h2⟩ := Seg.run3 (c := h) (l := l) (by assumption) (by assumption); rw [hI.done (by omega)] at h1; exact ⟨h1, h2⟩)
   have hr0 : (0 : Int) = ((Seg.run h l).1).first := by
    first | (simp only [ha, hae, Seg.zero]; done) | (rw [ha]; done)
   have hr1 : (0 : Int) = ((Seg.run h l).1).second := by
    first | (simp only [ha, hae, Seg.zero]; done) | (rw [ha]; done)
   have hr2 : ([] : List Int) = ((Seg.run h l).1).young := by
    first | (simp only [ha, hae, Seg.zero]; done) | (rw [ha]; done)
   have hr3 : ([] : List Int) = ((Seg.run h l).1).old := by
    first | (simp only [ha, hae, Seg.zero]; done) | (rw [ha]; done)
   have hr4 : (0 : Int) = ((Seg.run h l).2) := by
    first | (simp only [ha, hae, Seg.zero]; done) | (rw [ha]; done)
   have hr5 : ((Seg.check h) : Int) = (Seg.runErr h l) := by
    first | (simp only [ha, hae, Seg.zero]; done) | (rw [ha]; done)
   refine q_endM (p := (none, 0, none, 0)) (fun _ => False) (rt3 rfl (r_cell (i := 0) rfl rfl sh71 rfl) (r_tmp rfl) (r_tmp rfl)) (i := 2) rfl ?_ ?_ ?_
   ·exact (by have hcc := congr (congr (congr (congr (congr (congrArg (fun (y0 : Int) (y1 : Int) (y2 : List Int) (y3 : List Int) (y4 : Int) (y5 : Int) => (.tuple #[.agg #[.int .i64 y0, .int .i64 y1, .slice none y2.length 0, .slice none y3.length 0], .int .i64 y4, .int .i64 y5] : Value)) hr0) hr1) hr2) hr3) hr4) hr5; exact hcc)
   ·intro w hw b hb; exact hb.elim
   ·intro w hw; exact ⟨Eq.mp (congrArg (fun y => SlR tInt _ w none 0 y) hr2) (SlR.nil tInt _ w), Eq.mp (congrArg (fun y => SlR tInt _ w none 0 y) hr3) (SlR.nil tInt _ w)⟩
  ·simp only [bne_eq_false_iff_eq] at hc37
   exfalso; first | contradiction | omega | simp_all
end Go.Proofs.YtgkihbbeimhmbaaGreatDoor
