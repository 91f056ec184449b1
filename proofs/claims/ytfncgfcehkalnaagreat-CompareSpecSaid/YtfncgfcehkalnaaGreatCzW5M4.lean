/- The walks, printed by a program from the translation and a specification. -/
import Derived.Test.YtfncgfcehkalnaaGreatCzF
import Derived.Test.YtfncgfcehkalnaaGreatCpLaw3M2
import Derived.Test.YtfncgfcehkalnaaGreatCzW1
import Derived.Test.YtfncgfcehkalnaaGreatCzW2
import Derived.Test.YtfncgfcehkalnaaGreatCzW3M2
namespace Go.Proofs.YtfncgfcehkalnaaGreat
open Go.Sx Go.RowKit
set_option maxHeartbeats 8000000 in
set_option maxRecDepth 100000 in
theorem back1_ok (l : List Int) (al : Option Addr) (cl : Nat) (Bs : Nat) : ItOk Tryz.prog 100 [.pointer (some ⟨Bs, 0, none⟩)] (fun e w => ((box Bs [.slice al l.length cl] 22).A w ∧ (outer w [e]).S Bs) ∧ SlR tInt (outer w [e]).S w al cl l) Unit (fun x k => [Vi ((l.length : Int) - 1 - (k : Int)), Vi (l.getD (l.length - 1 - k) 0)]) (fun x k => []) (l.length) := by
 refine fnIt (nt := 19) (F1 := [(1, .pointer (some ⟨Bs, 0, none⟩))]) Tryz.func100 rfl Tryz.ntmps100 rfl rfl ?_
 intro l_ φ ψ e0 w0 hpre hφ Y
 obtain ⟨hb_Bs, hl⟩ := hpre
 have hlhl := hl.2.1
 refine c_seq (c_region ?_)
 refine o_p (p_loadR (v := .slice al l.length cl) rfl (rbox_outer (i := 0) rfl hb_Bs) sh22 rfl) ?_
 refine o_p (p_len_slice rfl rfl Tryz.underlying22) ?_
 refine o_p (p_subb rfl rfl (by omega)) ?_
 refine o_as rfl rfl ?_
 refine o_nil (q_then (c_block ?_))
 refine c_loop (St := Int × Nat × Ent)
  (fun ⟨i, k, e⟩ => [(0, .func (.yield l_) #[] #[]), (1, .pointer (some ⟨Bs, 0, none⟩)), (3, Vi i)])
  (fun ⟨i, k, e⟩ => [outer w0 [e0], e])
  (fun ⟨i, k, e⟩ => k ≤ l.length ∧ i = (l.length : Int) - 1 - (k : Int) ∧ φ k e)
  (fun ⟨i, k, e⟩ => (i + 1).toNat)
  (((l.length : Int) - 1), 0, e0) ?_ (sr (sr (sr (Sub.nil _)))) (fun _ hw => hw) ?_
 ·exact ⟨Nat.zero_le _, by omega, hφ⟩
 rintro ⟨i, k, e⟩ hI K hK1
 have hk1 := hI.1
 have hk2 := hI.2.1
 show SC _ _ Tryz.prog 19 w0 _ _ [(0, .func (.yield l_) #[] #[]), (1, .pointer (some ⟨Bs, 0, none⟩)), (3, Vi i)] [outer w0 [e0], e]
 refine c_seq (c_seq (c_region ?_))
 refine o_mv rfl rfl ?_
 refine o_p (p_ge rfl rfl) ?_
 refine o_nil (q_then ?_)
 refine c_cond rfl (fun hc2 => ?_) (fun hc2 => ?_)
 ·simp only [decide_eq_true_eq] at hc2
  refine c_skip (q_then (c_seq (c_block (c_seq ?_))))
  refine c_regionY ?_
  refine o_mv rfl rfl ?_
  refine o_mv rfl rfl ?_
  refine o_p (p_loadR (v := .slice al l.length cl) rfl (rbox_outer (i := 0) rfl hb_Bs) sh22 rfl) ?_
  refine o_mv rfl rfl ?_
  refine o_p (p_indexAddr (L := l) (T := tInt) (i := i) rfl rfl (rd_outer (i := 0) rfl hl) Tryz.underlying22 sz3 (by omega) (by omega)) ?_
  refine o_p (p_loadE1 (i := i.toNat) (T := tInt) (L := l) (v := Vi (l[i.toNat])) rfl (rd_outer (i := 0) rfl hl) (by first | assumption | omega) sh3 rfl) ?_
  have hv : ([Vi i, Vi (l[i.toNat])] : List Value) = [Vi ((l.length : Int) - 1 - (k : Int)), Vi (l.getD (l.length - 1 - k) 0)] := Opt.back_vals hI.2.1 (by omega) (by omega)
  refine o_yield (l := l_) (vs := [Vi i, Vi (l[i.toNat])]) (φ := φ (k + 1)) (ψ := ψ) rfl rfl (fun W hW => by rw [hv]; exact Y () k e W (by omega) hI.2.2 hW) rfl (fun e_3 he4 => ?_) (fun e_3 he4 => ?_)
  ·have hend := he4
   refine o_p (p_not (b := true) rfl) ?_
   refine o_nil (q_then ?_)
   refine c_false rfl ?_
   refine c_skip ?_
   refine q_block_normal (q_then ?_)
   refine c_region ?_
   refine o_mv rfl rfl ?_
   refine o_p (p_subb rfl rfl (by omega)) ?_
   refine o_as rfl rfl ?_
   refine o_nil ?_
   refine q_round hK1 ((i - 1), k + 1, e_3) ?_ ?_ ?_ ?_
   ·clear hK1
    exact ⟨by omega, by omega, hend⟩
   ·(try dsimp only); omega
   ·exact sr (sr (sr (Sub.nil _)))
   ·exact pk [0, 1]
  ·have hend := he4
   refine o_p (p_not (b := false) rfl) ?_
   refine o_nil (q_then ?_)
   refine c_true rfl ?_
   refine c_ret ?_
   refine q_block_ret (q_then_ret (q_then_ret (q_block_ret ?_)))
   refine q_endI (e := e_3) (rt0 rfl) ?_ (fun w hw => hw.pick (H' := [outer w0 [e0], e_3]) [0, 1] (by decide) rfl)
   first | exact .inr hend | exact .inl (it_fin hI.2.2 (by omega))
 ·simp only [decide_eq_false_iff_not, Int.not_le] at hc2
  refine c_exit ?_
  refine q_then_exit (q_then_exit (q_block_exit ?_))
  refine q_endI (e := e) (rt0 rfl) ?_ (fun w hw => hw.pick (H' := [outer w0 [e0], e]) [0, 1] (by decide) rfl)
  first | exact .inr hend | exact .inl (it_fin hI.2.2 (by omega))

set_option maxHeartbeats 8000000 in
set_option maxRecDepth 100000 in
theorem back_ok (l : List Int) (al : Option Addr) (cl : Nat) : FnX Tryz.prog 92 [.slice al l.length cl] [] (fun _ => True) (Nat) (fun p => .func (.func 100) #[] #[.pointer (some ⟨p, 0, none⟩)]) (fun p => [box p [.slice al l.length cl] 22]) := by
 refine fnX (nt := 4) (F0 := [(0, .slice al l.length cl)]) Tryz.func92 rfl Tryz.ntmps92 rfl rfl (fun w0 hpre => ?_)
 refine c_seq (c_region ?_)
 refine o_box (v := .slice al l.length cl) rfl rfl (fun B1 => ?_)
 refine o_as rfl rfl ?_
 refine o_nil (q_then (c_seq (c_region ?_)))
 refine o_p (p_makeFunc (vs := [.pointer (some ⟨B1, 0, none⟩)]) rfl) ?_
 refine o_as rfl rfl ?_
 refine o_nil (q_then (c_ret ?_))
 refine q_endX (p := (B1)) (rt1 rfl (r_tmp rfl)) rfl (fun w hw => ?_)
 exact hw.pick (H' := [outer w0 [], box B1 [.slice al l.length cl] 22]) [1, 0] (by decide) rfl

set_option maxHeartbeats 8000000 in
set_option maxRecDepth 100000 in
theorem nexts_ok (l : List Int) (al : Option Addr) (cl : Nat) (hy1 : l.length ≤ 1000) : FnM Tryz.prog 64 [.slice al l.length cl] (fun w => Rd tInt w al cl l) (Option Addr × Nat) (fun p => .slice p.1 (Opt.nexts l).length p.2) (fun p S w => SlO tInt S w p.1 p.2 (Opt.nexts l)) := by
 refine fnMR (nt := 35) (F0 := [(0, .slice al l.length cl)]) Tryz.func64 rfl Tryz.ntmps64 rfl rfl (fun w0 hpre => ?_)
 have hl := hpre
 have hlhl := hl.2.1
 refine c_seq (c_region ?_)
 refine o_box (v := .slice al l.length cl) rfl rfl (fun B1 => ?_)
 refine o_as rfl rfl ?_
 refine o_nil (q_then (c_seq (c_region ?_)))
 refine o_p (p_load (i := 0) (v := .slice al l.length cl) rfl rfl sh22 rfl) ?_
 refine o_p (p_len_slice rfl rfl Tryz.underlying22) ?_
 refine o_makeSlice (T := tInt) (m := (l.length : Int)) (z := 0) rfl rfl Tryz.underlying22 el3 ze3 rfl (by decide) (by omega) (by omega) rfl (fun S3 a2 => ?_)
 refine o_alloc ze22 rfl (fun B5 => ?_)
 refine o_store (i := 0) (v := .slice a2 (List.replicate ((l.length : Int).toNat) 0).length ((l.length : Int).toNat)) (cs' := [.slice a2 (List.replicate ((l.length : Int).toNat) 0).length ((l.length : Int).toNat)]) rfl rfl rfl sz22 rfl rfl rfl ?_
 refine o_nil (q_then (c_seq (c_region ?_)))
 refine o_makeMap (ν := Int) kInt (fun z : Int => Vi z) rfl (fun B6 => ?_)
 refine o_alloc ze108 rfl (fun B7 => ?_)
 refine o_store (i := 0) (v := .map (some B6)) (cs' := [.map (some B6)]) rfl rfl rfl sz108 rfl rfl rfl ?_
 refine o_nil (q_then (c_seq (c_seq (c_region ?_))))
 refine o_p (p_load (i := 4) (v := .slice al l.length cl) rfl rfl sh22 rfl) ?_
 refine o_callX (pre := []) (R := [box B7 [.map (some B6)] 108, mapE kInt (fun z : Int => Vi z) B6 ([]), box B5 [.slice a2 (List.replicate ((l.length : Int).toNat) 0).length ((l.length : Int).toNat)] 22, own tInt S3 a2 ((l.length : Int).toNat) (List.replicate ((l.length : Int).toNat) 0), box B1 [.slice al l.length cl] 22, base w0]) rfl (back_ok l al cl) hf92 rfl (fun _ _ => trivial) rfl ?_
 rintro B8
 refine o_asH (H' := [box B8 [.slice al l.length cl] 22, box B7 [.map (some B6)] 108, mapE kInt (fun z : Int => Vi z) B6 ([]), box B5 [.slice a2 (List.replicate ((l.length : Int).toNat) 0).length ((l.length : Int).toNat)] 22, own tInt S3 a2 ((l.length : Int).toNat) (List.replicate ((l.length : Int).toNat) 0), box B1 [.slice al l.length cl] 22, base w0]) rfl ?_
 refine o_nil (q_then (c_block ?_))
 refine c_rangeFunc (f := 100) (caps := [.pointer (some ⟨B8, 0, none⟩)]) (Pr := (fun e w => ((box B8 [.slice al l.length cl] 22).A w ∧ (outer w [e]).S B8) ∧ SlR tInt (outer w [e]).S w al cl l)) (X := Unit) (encs := (fun x k => [Vi ((l.length : Int) - 1 - (k : Int)), Vi (l.getD (l.length - 1 - k) 0)])) (E := (fun x k => [])) (N := l.length) rfl hf100 (back1_ok l al cl B8) (fun _ _ => rfl) (by decide) (St := List Int × Option Addr × Nat × (Nat → Prop) × List (Int × Int))
  (fun ⟨ol, aol, col, Sol, m⟩ => [mapE kInt (fun z : Int => Vi z) B6 m, box B5 [.slice aol ol.length col] 22, own tInt Sol aol col ol])
  (fun k ⟨ol, aol, col, Sol, m⟩ => Opt.NInv l ol m k)
  (fun c ⟨ol, aol, col, Sol, m⟩ => False)
  [box B8 [.slice al l.length cl] 22, box B7 [.map (some B6)] 108, box B1 [.slice al l.length cl] 22, base w0]
  ((List.replicate ((l.length : Int).toNat) 0), a2, (l.length : Int).toNat, S3, []) ?_ ?_ ?_ ?_ ?_ ?_
 ·exact Opt.NInv.start l
 ·exact fun w hw => hw.pick (H' := [mapE kInt (fun z : Int => Vi z) B6 ([]), box B5 [.slice a2 (List.replicate ((l.length : Int).toNat) 0).length ((l.length : Int).toNat)] 22, own tInt S3 a2 ((l.length : Int).toNat) (List.replicate ((l.length : Int).toNat) 0), box B8 [.slice al l.length cl] 22, box B7 [.map (some B6)] 108, box B1 [.slice al l.length cl] 22, base w0]) [2, 3, 4, 0, 1, 5, 6] (by decide) rfl
 ·intro D e0 W1 hW1
  exact ⟨boxX (i := 2) (js := [0]) rfl (by decide) rfl W1 hW1, (rdX (i := 5) (js := [0]) rfl (by decide) rfl (fun _ hA => slR_base hl hA)) W1 hW1⟩
 ·rintro l_ rc D e0 W1 hW1 x_ k ⟨ol, aol, col, Sol, m⟩ hk hI
  have hol := hI.len
  have hor0_1 : SlR tInt (outer W1 [e0]).S W1 al cl l := (rdX (i := 5) (js := [0]) rfl (by decide) rfl (fun _ hA => slR_base hl hA)) W1 hW1
  have hlhor0_1 := hor0_1.2.1
  have hobr0_B1 := boxX (i := 4) (B := B1) (cs := [.slice al l.length cl]) (U := 22) (js := [0]) (pre := [e0]) rfl (by decide) rfl W1 hW1
  have hobr0_B7 := boxX (i := 3) (B := B7) (cs := [.map (some B6)]) (U := 108) (js := [0]) (pre := [e0]) rfl (by decide) rfl W1 hW1
  refine c_seq (c_region ?_)
  refine o_as rfl rfl ?_
  refine o_nil (q_then (c_region ?_))
  refine o_as rfl rfl ?_
  refine o_nil ?_
  refine q_begin (i := 1) rfl ?_
  refine c_block (c_seq (c_region ?_))
  refine o_p (p_loadR (v := .map (some B6)) rfl (rbox_outer (i := 0) rfl hobr0_B7) sh108 rfl) ?_
  refine o_mv rfl rfl ?_
  refine o_p (p_lookup2 (i := 2) (K := kInt) (ve := (fun z : Int => Vi z)) (m := m) (k := (l.getD (l.length - 1 - k) 0)) (dflt := 0) rfl rfl rfl Tryz.underlying108 Tryz.underlying3 zv3) ?_
  refine o_mv rfl rfl ?_
  refine o_ex rfl rfl rfl ?_
  refine o_ex rfl rfl rfl ?_
  refine o_as rfl rfl ?_
  refine o_as rfl rfl ?_
  refine o_nil (q_then (c_seq (c_seq (c_region ?_))))
  refine o_mv rfl rfl ?_
  refine o_p (p_not (b := (AL.get m (l.getD (l.length - 1 - k) 0)).isSome) rfl) ?_
  refine o_nil (q_then ?_)
  refine c_cond rfl (fun hc9 => ?_) (fun hc9 => ?_)
  ·simp only [Bool.not_eq_true'] at hc9
   refine c_region ?_
   refine o_p (p_loadR (v := .slice al l.length cl) rfl (rbox_outer (i := 0) rfl hobr0_B1) sh22 rfl) ?_
   refine o_p (p_len_slice rfl rfl Tryz.underlying22) ?_
   refine o_as rfl rfl ?_
   refine o_nil (q_then ?_)
   refine c_heldR hmix (by decide) (fun _ _ h => h) [outer W1 [e0], loopE l_ (recd rc .busy none), box B5 [.slice aol ol.length col] 22, ownE tInt Sol aol col (ol.length)] rfl rfl ?_
   refine h_tk (i := 0) (ls := #[T1,F0,F0,F0,F0,F0,F0,F0,F0]) rfl (p_load (i := 2) (v := .slice aol ol.length col) rfl rfl sh22 rfl) (fun _ hw => HeapIs.drop (HeapIs.toE (i := 4) (m := ol.length) (T := tInt) rfl (by simp only [List.length_set]) hw) (lj (lj (lz (lj (lj (ln))))))) ?_
   refine h_tk (i := 1) (ls := #[T1,T1,F0,F0,F0,F0,F0,F0,F0]) rfl (p_move rfl) (fun _ hw => HeapIs.drop (HeapIs.toE (i := 4) (m := ol.length) (T := tInt) rfl (by simp only [List.length_set]) hw) (lj (lj (lz (lj (lj (ln))))))) ?_
   refine h_tk (i := 2) (ls := #[T1,T1,T1,F0,F0,F0,F0,F0,F0]) rfl (p_loadR (v := .map (some B6)) rfl (rbox_outer (i := 0) rfl hobr0_B7) sh108 rfl) (fun _ hw => HeapIs.drop (HeapIs.toE (i := 4) (m := ol.length) (T := tInt) rfl (by simp only [List.length_set]) hw) (lj (lj (lz (lj (lj (ln))))))) ?_
   refine h_tk (i := 3) (ls := #[T1,T1,T1,T1,F0,F0,F0,F0,F0]) rfl (p_move rfl) (fun _ hw => HeapIs.drop (HeapIs.toE (i := 4) (m := ol.length) (T := tInt) rfl (by simp only [List.length_set]) hw) (lj (lj (lz (lj (lj (ln))))))) ?_
   refine h_tk (i := 4) (ls := #[T1,T1,T1,T1,T1,F0,F0,F0,F0]) rfl (p_move rfl) (fun _ hw => HeapIs.drop (HeapIs.toE (i := 4) (m := ol.length) (T := tInt) rfl (by simp only [List.length_set]) hw) (lj (lj (lz (lj (lj (ln))))))) ?_
   refine h_tk (i := 5) (ls := #[T1,T1,T1,T1,T1,T1,F0,F0,F0]) rfl (p_move rfl) (fun _ hw => HeapIs.drop (HeapIs.toE (i := 4) (m := ol.length) (T := tInt) rfl (by simp only [List.length_set]) hw) (lj (lj (lz (lj (lj (ln))))))) ?_
   refine h_tk (i := 6) (ls := #[T1,T1,T1,T1,T1,T1,T1,F0,F0]) rfl (p_indexAddrE (T := tInt) (i := ((l.length : Int) - 1 - (k : Int))) (j := 3) rfl rfl rfl Tryz.underlying22 sz3 (by omega) (by omega)) (fun _ hw => HeapIs.drop (HeapIs.toE (i := 4) (m := ol.length) (T := tInt) rfl (by simp only [List.length_set]) hw) (lj (lj (lz (lj (lj (ln))))))) ?_
   refine h_one (i := 7) (ls := #[T1,T1,T1,T1,T1,T1,T1,T1,F0]) (by kernel_rfl) rfl rfl ?_
   refine o_storeW (i := 4) (T := tInt) (idx := ((l.length : Int) - 1 - (k : Int)).toNat) (v := Vi (l.length : Int)) (vs := [Vi (l.length : Int)]) (z := (l.length : Int)) rfl rfl rfl rfl (by first | assumption | omega | (simp only [List.length_set]; omega)) sz3 rfl rfl rfl rfl (Sub.refl _) ?_
   refine o_nil ?_
   refine h_next (fun _ hw => HeapIs.drop (HeapIs.toE (i := 4) (m := ol.length) (T := tInt) rfl (by simp only [List.length_set]) hw) (lj (lj (lz (lj (lj (ln))))))) ?_
   refine h_one (i := 8) (ls := #[T1,T1,T1,T1,T1,T1,T1,T1,T1]) (by kernel_rfl) rfl rfl ?_
   refine o_mapUpdate (i := 2) (K := kInt) (ve := (fun z : Int => Vi z)) (m := m) (k := (l.getD (l.length - 1 - k) 0)) (v := ((l.length : Int) - 1 - (k : Int))) rfl rfl rfl rfl Tryz.underlying108 Tryz.underlying3 ?_
   refine o_nil ?_
   refine h_next (fun _ hw => HeapIs.drop (HeapIs.toE (i := 4) (m := ol.length) (T := tInt) rfl (by simp only [List.length_set]) hw) (lj (lj (lz (lj (lj (ln))))))) ?_
   refine h_done (by kernel_rfl) ?_
   refine q_cast (F' := []) (H := [outer W1 [e0], loopE l_ (recd rc .busy none), mapE kInt (fun z : Int => Vi z) B6 (AL.set m (l.getD (l.length - 1 - k) 0) ((l.length : Int) - 1 - (k : Int))), box B5 [.slice aol ol.length col] 22, own tInt Sol aol col (ol.set (((l.length : Int) - 1 - (k : Int)).toNat) (l.length : Int))]) (H' := [outer W1 [e0], loopE l_ (recd rc .busy none), mapE kInt (fun z : Int => Vi z) B6 (AL.set m (l.getD (l.length - 1 - k) 0) ((l.length : Int) - 1 - (k : Int))), box B5 [.slice aol (ol.set (((l.length : Int) - 1 - (k : Int)).toNat) (l.length : Int)).length col] 22, own tInt Sol aol col (ol.set (((l.length : Int) - 1 - (k : Int)).toNat) (l.length : Int))]) (Sub.nil _) (by simp only [List.length_set, List.length_reverse]) ?_
   refine q_block_normal ?_
   refine q_next ((ol.set (((l.length : Int) - 1 - (k : Int)).toNat) (l.length : Int)), aol, col, Sol, (AL.set m (l.getD (l.length - 1 - k) 0) ((l.length : Int) - 1 - (k : Int)))) ?_ (fun w hw => hw.pick (H' := [outer W1 [e0], loopE l_ (recd rc .busy none), mapE kInt (fun z : Int => Vi z) B6 (AL.set m (l.getD (l.length - 1 - k) 0) ((l.length : Int) - 1 - (k : Int))), box B5 [.slice aol (ol.set (((l.length : Int) - 1 - (k : Int)).toNat) (l.length : Int)).length col] 22, own tInt Sol aol col (ol.set (((l.length : Int) - 1 - (k : Int)).toNat) (l.length : Int))]) [0, 1, 2, 3, 4] (by decide) rfl)
   first | exact hI.next hk rfl rfl (hI.some (by assumption)) | exact hI.next hk rfl rfl (hI.none (by assumption))
  ·simp only [Bool.not_eq_false'] at hc9
   refine c_skip (q_then ?_)
   refine c_heldR hmix (by decide) (fun _ _ h => h) [outer W1 [e0], loopE l_ (recd rc .busy none), box B5 [.slice aol ol.length col] 22, ownE tInt Sol aol col (ol.length)] rfl rfl ?_
   refine h_tk (i := 0) (ls := #[T1,F0,F0,F0,F0,F0,F0,F0,F0]) rfl (p_load (i := 2) (v := .slice aol ol.length col) rfl rfl sh22 rfl) (fun _ hw => HeapIs.drop (HeapIs.toE (i := 4) (m := ol.length) (T := tInt) rfl (by simp only [List.length_set]) hw) (lj (lj (lz (lj (lj (ln))))))) ?_
   refine h_tk (i := 1) (ls := #[T1,T1,F0,F0,F0,F0,F0,F0,F0]) rfl (p_move rfl) (fun _ hw => HeapIs.drop (HeapIs.toE (i := 4) (m := ol.length) (T := tInt) rfl (by simp only [List.length_set]) hw) (lj (lj (lz (lj (lj (ln))))))) ?_
   refine h_tk (i := 2) (ls := #[T1,T1,T1,F0,F0,F0,F0,F0,F0]) rfl (p_loadR (v := .map (some B6)) rfl (rbox_outer (i := 0) rfl hobr0_B7) sh108 rfl) (fun _ hw => HeapIs.drop (HeapIs.toE (i := 4) (m := ol.length) (T := tInt) rfl (by simp only [List.length_set]) hw) (lj (lj (lz (lj (lj (ln))))))) ?_
   refine h_tk (i := 3) (ls := #[T1,T1,T1,T1,F0,F0,F0,F0,F0]) rfl (p_move rfl) (fun _ hw => HeapIs.drop (HeapIs.toE (i := 4) (m := ol.length) (T := tInt) rfl (by simp only [List.length_set]) hw) (lj (lj (lz (lj (lj (ln))))))) ?_
   refine h_tk (i := 4) (ls := #[T1,T1,T1,T1,T1,F0,F0,F0,F0]) rfl (p_move rfl) (fun _ hw => HeapIs.drop (HeapIs.toE (i := 4) (m := ol.length) (T := tInt) rfl (by simp only [List.length_set]) hw) (lj (lj (lz (lj (lj (ln))))))) ?_
   refine h_tk (i := 5) (ls := #[T1,T1,T1,T1,T1,T1,F0,F0,F0]) rfl (p_move rfl) (fun _ hw => HeapIs.drop (HeapIs.toE (i := 4) (m := ol.length) (T := tInt) rfl (by simp only [List.length_set]) hw) (lj (lj (lz (lj (lj (ln))))))) ?_
   refine h_tk (i := 6) (ls := #[T1,T1,T1,T1,T1,T1,T1,F0,F0]) rfl (p_indexAddrE (T := tInt) (i := ((l.length : Int) - 1 - (k : Int))) (j := 3) rfl rfl rfl Tryz.underlying22 sz3 (by omega) (by omega)) (fun _ hw => HeapIs.drop (HeapIs.toE (i := 4) (m := ol.length) (T := tInt) rfl (by simp only [List.length_set]) hw) (lj (lj (lz (lj (lj (ln))))))) ?_
   refine h_one (i := 7) (ls := #[T1,T1,T1,T1,T1,T1,T1,T1,F0]) (by kernel_rfl) rfl rfl ?_
   refine o_storeW (i := 4) (T := tInt) (idx := ((l.length : Int) - 1 - (k : Int)).toNat) (v := Vi ((AL.get m (l.getD (l.length - 1 - k) 0)).getD 0)) (vs := [Vi ((AL.get m (l.getD (l.length - 1 - k) 0)).getD 0)]) (z := ((AL.get m (l.getD (l.length - 1 - k) 0)).getD 0)) rfl rfl rfl rfl (by first | assumption | omega | (simp only [List.length_set]; omega)) sz3 rfl rfl rfl rfl (Sub.refl _) ?_
   refine o_nil ?_
   refine h_next (fun _ hw => HeapIs.drop (HeapIs.toE (i := 4) (m := ol.length) (T := tInt) rfl (by simp only [List.length_set]) hw) (lj (lj (lz (lj (lj (ln))))))) ?_
   refine h_one (i := 8) (ls := #[T1,T1,T1,T1,T1,T1,T1,T1,T1]) (by kernel_rfl) rfl rfl ?_
   refine o_mapUpdate (i := 2) (K := kInt) (ve := (fun z : Int => Vi z)) (m := m) (k := (l.getD (l.length - 1 - k) 0)) (v := ((l.length : Int) - 1 - (k : Int))) rfl rfl rfl rfl Tryz.underlying108 Tryz.underlying3 ?_
   refine o_nil ?_
   refine h_next (fun _ hw => HeapIs.drop (HeapIs.toE (i := 4) (m := ol.length) (T := tInt) rfl (by simp only [List.length_set]) hw) (lj (lj (lz (lj (lj (ln))))))) ?_
   refine h_done (by kernel_rfl) ?_
   refine q_cast (F' := []) (H := [outer W1 [e0], loopE l_ (recd rc .busy none), mapE kInt (fun z : Int => Vi z) B6 (AL.set m (l.getD (l.length - 1 - k) 0) ((l.length : Int) - 1 - (k : Int))), box B5 [.slice aol ol.length col] 22, own tInt Sol aol col (ol.set (((l.length : Int) - 1 - (k : Int)).toNat) ((AL.get m (l.getD (l.length - 1 - k) 0)).getD 0))]) (H' := [outer W1 [e0], loopE l_ (recd rc .busy none), mapE kInt (fun z : Int => Vi z) B6 (AL.set m (l.getD (l.length - 1 - k) 0) ((l.length : Int) - 1 - (k : Int))), box B5 [.slice aol (ol.set (((l.length : Int) - 1 - (k : Int)).toNat) ((AL.get m (l.getD (l.length - 1 - k) 0)).getD 0)).length col] 22, own tInt Sol aol col (ol.set (((l.length : Int) - 1 - (k : Int)).toNat) ((AL.get m (l.getD (l.length - 1 - k) 0)).getD 0))]) (Sub.nil _) (by simp only [List.length_set, List.length_reverse]) ?_
   refine q_block_normal ?_
   refine q_next ((ol.set (((l.length : Int) - 1 - (k : Int)).toNat) ((AL.get m (l.getD (l.length - 1 - k) 0)).getD 0)), aol, col, Sol, (AL.set m (l.getD (l.length - 1 - k) 0) ((l.length : Int) - 1 - (k : Int)))) ?_ (fun w hw => hw.pick (H' := [outer W1 [e0], loopE l_ (recd rc .busy none), mapE kInt (fun z : Int => Vi z) B6 (AL.set m (l.getD (l.length - 1 - k) 0) ((l.length : Int) - 1 - (k : Int))), box B5 [.slice aol (ol.set (((l.length : Int) - 1 - (k : Int)).toNat) ((AL.get m (l.getD (l.length - 1 - k) 0)).getD 0)).length col] 22, own tInt Sol aol col (ol.set (((l.length : Int) - 1 - (k : Int)).toNat) ((AL.get m (l.getD (l.length - 1 - k) 0)).getD 0))]) [0, 1, 2, 3, 4] (by decide) rfl)
   first | exact hI.next hk rfl rfl (hI.some (by assumption)) | exact hI.next hk rfl rfl (hI.none (by assumption))
 ·rintro D ⟨ol, aol, col, Sol, m⟩ hI
  show SQ _ 35 w0 _ _ _ [defE D, mapE kInt (fun z : Int => Vi z) B6 m, box B5 [.slice aol ol.length col] 22, own tInt Sol aol col ol, box B8 [.slice al l.length cl] 22, box B7 [.map (some B6)] 108, box B1 [.slice al l.length cl] 22, base w0]
  refine q_block_normal (q_then ?_)
  refine c_seq (c_region ?_)
  refine o_p (p_load (i := 2) (v := .slice aol ol.length col) rfl rfl sh22 rfl) ?_
  refine o_as rfl rfl ?_
  refine o_nil (q_then (c_ret ?_))
  refine q_marks (i := 0) rfl ?_
  show SQ _ 35 w0 _ _ _ [mapE kInt (fun z : Int => Vi z) B6 m, box B5 [.slice aol ol.length col] 22, own tInt Sol aol col ol, box B8 [.slice al l.length cl] 22, box B7 [.map (some B6)] 108, box B1 [.slice al l.length cl] 22, base w0]
  refine q_marks0 ?_
  have hr0 : (ol : List Int) = (Opt.nexts l) := by
   exact hI.done
  refine q_endM (p := (aol, col)) Sol (rt1 rfl (r_tmp rfl)) (i := 6) rfl ?_ ?_ ?_
  ·exact (by have hcc := congrArg (fun (y0 : List Int) => (.slice aol y0.length col : Value)) hr0; exact hcc)
  ·exact fun w hw => hw.above (i := 6) (j := 2) (by decide) rfl rfl
  ·intro w hw; exact Eq.mp (congrArg (fun y => SlO tInt _ w aol col y) hr0) ((hw.at (i := 2) rfl).here)
 ·intro D c s h; exact h.elim

set_option maxHeartbeats 8000000 in
set_option maxRecDepth 100000 in
theorem farthest_ok (m : List (Int × Int)) (Bm : Nat) (hy1 : ∀ p ∈ m, 0 ≤ p.2) : Fn0 Tryz.prog 65 [.map (some Bm)] (fun w => MapIs kInt (fun z : Int => Vi z) Bm m w) (Vi (Opt.far m)) := by
 refine fn0 (nt := 30) (F0 := [(0, .map (some Bm))]) Tryz.func65 rfl Tryz.ntmps65 rfl rfl (fun w0 hpre => ?_)
 have hm := hpre
 obtain ⟨es_hm, cl_hm, hm_1, hm_2, hm_3⟩ : ∃ es c, _ ∧ _ ∧ _ := (id hm)
 refine c_seq (c_region ?_)
 refine o_as rfl rfl ?_
 refine o_nil (q_then (c_seq (c_region ?_)))
 refine o_as rfl rfl ?_
 refine o_as rfl rfl ?_
 refine o_nil (q_then (c_seq (c_seq (c_region ?_))))
 refine o_mv rfl rfl ?_
 refine o_range (K := kInt) (ve := (fun z : Int => Vi z)) (m := m) rfl (blk_base (i := 0) rfl hm_1) hm_2 hm_3 Tryz.underlying109 rfl (fun B1 => ?_)
 refine o_nil (q_then (c_block ?_))
 refine c_loop (St := Int × Int × List (Int × Int) × Option (Int × Int))
  (fun ⟨best, when_, lf, lfc⟩ => [(3, Vi best), (4, Vi when_), (8, .pointer (some ⟨B1, 0, none⟩))])
  (fun ⟨best, when_, lf, lfc⟩ => [iterE kInt (fun z : Int => Vi z) B1 Bm es_hm cl_hm lf lfc, base w0])
  (fun ⟨best, when_, lf, lfc⟩ => Opt.FI m lf best when_)
  (fun ⟨best, when_, lf, lfc⟩ => lf.length)
  ((-1), (-1), m, none) ?_ (sr (sr (sr (Sub.nil _)))) (fun _ hw => hw) ?_
 ·exact Opt.FI.start m
 rintro ⟨best, when_, lf, lfc⟩ hI K hK2
 show SC _ _ Tryz.prog 30 w0 _ _ [(3, Vi best), (4, Vi when_), (8, .pointer (some ⟨B1, 0, none⟩))] [iterE kInt (fun z : Int => Vi z) B1 Bm es_hm cl_hm lf lfc, base w0]
 refine c_seq (c_region ?_)
 refine o_next (i := 0) rfl rfl (blk_base (i := 1) rfl hm_1) hm_3 rfl ?_ ?_
 ·intro hnil
  refine o_ex rfl rfl rfl ?_
  refine o_nil (q_then (c_seq ?_))
  refine c_false rfl ?_
  refine c_exit ?_
  refine q_then_exit (q_then_exit (q_block_exit (q_then ?_)))
  refine c_seq (c_region ?_)
  refine o_mv rfl rfl ?_
  refine o_as rfl rfl ?_
  refine o_nil (q_then (c_ret ?_))
  have hr0 : (best : Int) = (Opt.far m) := by
   exact hI.done hnil hy1
  refine q_end0 (v := Vi best) (rt1 rfl (r_tmp rfl)) (i := 1) rfl ?_
  exact (by have hcc := congrArg (fun (y0 : Int) => (.int .i64 y0 : Value)) hr0; exact hcc)
 ·rintro xe xA xC hxs
  refine o_ex rfl rfl rfl ?_
  refine o_nil (q_then (c_seq ?_))
  refine c_true rfl ?_
  refine c_skip (q_then (c_block (c_seq (c_region ?_))))
  refine o_p (p_entry (K := kInt) (ve := (fun z : Int => Vi z)) (p := xe) (i := 0) rfl rfl (blk_base (i := 1) rfl hm_1) hm_3) ?_
  refine o_ex rfl rfl rfl ?_
  refine o_ex rfl rfl rfl ?_
  refine o_as rfl rfl ?_
  refine o_as rfl rfl ?_
  refine o_nil (q_then (c_seq (c_region ?_)))
  refine o_mv rfl rfl ?_
  refine o_mv rfl rfl ?_
  refine o_p (p_gt rfl rfl) ?_
  refine o_mv rfl rfl ?_
  refine o_or (p := 26) 9 ((xe.2 == when_) && decide (xe.1 < best)) ?_ ?_ ?_
  ·intro hb3 hk
   simp only [decide_eq_false_iff_not, Int.not_lt] at hb3
   refine o_unguard 17 rfl rfl ?_
   refine o_mv rfl rfl ?_
   refine o_unguard 17 rfl rfl ?_
   refine o_mv rfl rfl ?_
   refine o_unguard 17 rfl rfl ?_
   refine o_p (p_eq rfl rfl) ?_
   refine o_unguard 17 rfl rfl ?_
   refine o_mv rfl rfl ?_
   refine o_and (p := 25) 4 (decide (xe.1 < best)) ?_ ?_ ?_
   ·intro hb4 hk
    simp only [beq_iff_eq] at hb4
    refine o_unguard 21 rfl rfl ?_
    refine o_mv rfl rfl ?_
    refine o_unguard 21 rfl rfl ?_
    refine o_mv rfl rfl ?_
    refine o_unguard 21 rfl rfl ?_
    refine o_p (p_lt rfl rfl) ?_
    refine o_unguard 17 rfl rfl ?_
    refine o_pt rfl rfl rfl ?_
    exact o_sub (sr (Sub.skip rfl (Sub.skip rfl (Sub.skip rfl (Sub.skip rfl (Sub.skip rfl (Sub.refl _))))))) hk
   ·intro hb4 hk
    refine o_guard_no rfl 21 rfl rfl rfl rfl rfl ?_
    refine o_guard_no rfl 21 rfl rfl rfl rfl rfl ?_
    refine o_guard_no rfl 21 rfl rfl rfl rfl rfl ?_
    refine o_unguard 17 rfl rfl ?_
    refine o_pf rfl rfl rfl ?_
    exact o_sub (sr (Sub.skip rfl (Sub.skip rfl (Sub.skip rfl (Sub.skip rfl (Sub.skip rfl (Sub.refl _))))))) hk
   refine o_pf rfl rfl rfl ?_
   exact o_sub (sr (Sub.skip rfl (Sub.skip rfl (Sub.skip rfl (Sub.skip rfl (Sub.skip rfl (Sub.skip rfl (Sub.refl _)))))))) hk
  ·intro hb3 hk
   refine o_guard_no rfl 17 rfl rfl rfl rfl rfl ?_
   refine o_guard_no rfl 17 rfl rfl rfl rfl rfl ?_
   refine o_guard_no rfl 17 rfl rfl rfl rfl rfl ?_
   refine o_guard_no rfl 17 rfl rfl rfl rfl rfl ?_
   refine o_guard_no rfl 21 rfl rfl rfl rfl rfl ?_
   refine o_guard_no rfl 21 rfl rfl rfl rfl rfl ?_
   refine o_guard_no rfl 21 rfl rfl rfl rfl rfl ?_
   refine o_guard_no rfl 17 rfl rfl rfl rfl rfl ?_
   refine o_pt rfl rfl rfl ?_
   exact o_sub (sr (Sub.skip rfl (Sub.skip rfl (Sub.skip rfl (Sub.skip rfl (Sub.skip rfl (Sub.skip rfl (Sub.skip rfl (Sub.skip rfl (Sub.skip rfl (Sub.skip rfl (Sub.refl _)))))))))))) hk
  refine o_nil (q_then ?_)
  refine c_cond rfl (fun hc5 => ?_) (fun hc5 => ?_)
  ·simp only [Bool.or_eq_true, decide_eq_true_eq, Bool.and_eq_true, beq_iff_eq] at hc5
   have hpk := hc5
   refine c_region ?_
   refine o_mv rfl rfl ?_
   refine o_mv rfl rfl ?_
   refine o_as rfl rfl ?_
   refine o_as rfl rfl ?_
   refine o_nil ?_
   refine q_block_normal ?_
   refine q_round hK2 (xe.1, xe.2, (xA ++ xC), (some xe)) ?_ ?_ ?_ ?_
   ·clear hK2
    first | exact hI.take_ hxs hy1 (by omega) | exact hI.skip hxs hy1 (by omega)
   ·(try dsimp only); rw [hxs]; simp only [List.length_append, List.length_cons]; omega
   ·exact sr (sr (sr (Sub.nil _)))
   ·exact pk [0, 1]
  ·simp only [Bool.or_eq_false_iff, decide_eq_false_iff_not, Int.not_lt, Bool.and_eq_false_iff, beq_eq_false_iff_ne, ne_eq] at hc5
   have hpk := hc5
   refine c_skip ?_
   refine q_block_normal ?_
   refine q_round hK2 (best, when_, (xA ++ xC), (some xe)) ?_ ?_ ?_ ?_
   ·clear hK2
    first | exact hI.take_ hxs hy1 (by omega) | exact hI.skip hxs hy1 (by omega)
   ·(try dsimp only); rw [hxs]; simp only [List.length_append, List.length_cons]; omega
   ·exact sr (sr (sr (Sub.nil _)))
   ·exact pk [0, 1]

set_option maxHeartbeats 8000000 in
set_option maxRecDepth 100000 in
theorem oevict_ok (l : List Int) (al : Option Addr) (cl : Nat) (room : Int) : FnM Tryz.prog 39 [.slice al l.length cl, Vi room] (fun w => Rd tInt w al cl l) (Option Addr × Nat) (fun p => .tuple #[.slice p.1 ((Opt.ev l room).1).length p.2, Vi ((Opt.ev l room).2), Vi (Opt.evErr l room)]) (fun p S w => SlO tInt S w p.1 p.2 ((Opt.ev l room).1)) := by
 refine fnM (nt := 70) (F0 := [(0, .slice al l.length cl), (1, Vi room)]) Tryz.func39 rfl Tryz.ntmps39 rfl rfl (fun w0 hpre => ?_)
 have hl := hpre
 have hlhl := hl.2.1
 refine c_seq (c_region ?_)
 refine o_as rfl rfl ?_
 refine o_as rfl rfl ?_
 refine o_as rfl rfl ?_
 refine o_nil (q_then (c_seq (c_region ?_)))
 refine o_mv rfl rfl ?_
 refine o_call0 (v := Vi (Lru.trace l)) rfl (checkTrace_ok l al cl) hf29 (fun w hw => (rd_base (i := 0) rfl hl) w hw) rfl ?_
 refine o_as rfl rfl ?_
 refine o_nil (q_then (c_seq (c_seq (c_region ?_))))
 refine o_mv rfl rfl ?_
 refine o_p (p_eq rfl rfl) ?_
 refine o_mv rfl rfl ?_
 refine o_and (p := 25) 4 (!(Lru.okRoom room)) ?_ ?_ ?_
 ·intro hb1 hk
  simp only [beq_iff_eq] at hb1
  refine o_unguard 21 rfl rfl ?_
  refine o_mv rfl rfl ?_
  refine o_unguard 21 rfl rfl ?_
  refine o_call0 (v := .bool (Lru.okRoom room)) rfl (room_ok room) hf63 (fun _ _ => trivial) rfl ?_
  refine o_unguard 21 rfl rfl ?_
  refine o_p (p_not (b := (Lru.okRoom room)) rfl) ?_
  refine o_pt rfl rfl rfl ?_
  exact o_sub (sr (Sub.skip rfl (Sub.skip rfl (Sub.skip rfl (Sub.skip rfl (Sub.skip rfl (Sub.refl _))))))) hk
 ·intro hb1 hk
  refine o_guard_no rfl 21 rfl rfl rfl rfl rfl ?_
  refine o_guard_no rfl 21 rfl rfl rfl rfl rfl ?_
  refine o_guard_no rfl 21 rfl rfl rfl rfl rfl ?_
  refine o_pf rfl rfl rfl ?_
  exact o_sub (sr (Sub.skip rfl (Sub.skip rfl (Sub.skip rfl (Sub.skip rfl (Sub.skip rfl (Sub.refl _))))))) hk
 refine o_nil (q_then ?_)
 refine c_cond rfl (fun hc2 => ?_) (fun hc2 => ?_)
 ·simp only [Bool.and_eq_true, beq_iff_eq, Bool.not_eq_true'] at hc2
  have hbad := hc2
  refine c_region ?_
  refine o_as rfl rfl ?_
  refine o_nil (q_then (c_seq (c_seq (c_region ?_))))
  refine o_mv rfl rfl ?_
  refine o_p (p_ne rfl rfl) ?_
  refine o_nil (q_then ?_)
  refine c_true rfl ?_
  refine c_seq (c_region ?_)
  refine o_mv rfl rfl ?_
  refine o_as rfl rfl ?_
  refine o_as rfl rfl ?_
  refine o_as rfl rfl ?_
  refine o_nil (q_then (c_ret ?_))
  refine q_then_ret ?_
  obtain ⟨hv1, hv2⟩ : _ ∧ _ := by first | exact Opt.ev2 (room := room) hbad.1 hbad.2 | exact Opt.ev3 (room := room) htr hrk | exact Opt.ev1 (room := room) (by assumption)
  have hr0 : ([] : List Int) = ((Opt.ev l room).1) := by
   first | (rw [hv1]; done) | exact hv2.symm | (rw [hv1, ← hdn]; done)
  have hr1 : (0 : Int) = ((Opt.ev l room).2) := by
   first | (rw [hv1]; done) | exact hv2.symm | (rw [hv1, ← hdn]; done)
  have hr2 : (3 : Int) = (Opt.evErr l room) := by
   first | (rw [hv1]; done) | exact hv2.symm | (rw [hv1, ← hdn]; done)
  refine q_endM (p := (none, 0)) (fun _ => False) (rt3 rfl (r_tmp rfl) (r_tmp rfl) (r_tmp rfl)) (i := 0) rfl ?_ ?_ ?_
  ·exact (by have hcc := congr (congr (congrArg (fun (y0 : List Int) (y1 : Int) (y2 : Int) => (.tuple #[.slice none y0.length 0, .int .i64 y1, .int .i64 y2] : Value)) hr0) hr1) hr2; exact hcc)
  ·intro w hw b hb; exact hb.elim
  ·intro w hw; exact Eq.mp (congrArg (fun y => SlO tInt _ w none 0 y) hr0) (SlO.nil tInt w)
 ·simp only [Bool.and_eq_false_iff, beq_eq_false_iff_ne, ne_eq, Bool.not_eq_false'] at hc2
  have hro := hc2
  refine c_skip (q_then (c_seq (c_seq (c_region ?_))))
  refine o_mv rfl rfl ?_
  refine o_p (p_ne rfl rfl) ?_
  refine o_nil (q_then ?_)
  refine c_cond rfl (fun hc3 => ?_) (fun hc3 => ?_)
  ·simp only [bne_iff_ne, ne_eq] at hc3
   refine c_seq (c_region ?_)
   refine o_mv rfl rfl ?_
   refine o_as rfl rfl ?_
   refine o_as rfl rfl ?_
   refine o_as rfl rfl ?_
   refine o_nil (q_then (c_ret ?_))
   refine q_then_ret ?_
   obtain ⟨hv1, hv2⟩ : _ ∧ _ := by first | exact Opt.ev2 (room := room) hbad.1 hbad.2 | exact Opt.ev3 (room := room) htr hrk | exact Opt.ev1 (room := room) (by assumption)
   have hr0 : ([] : List Int) = ((Opt.ev l room).1) := by
    first | (rw [hv1]; done) | exact hv2.symm | (rw [hv1, ← hdn]; done)
   have hr1 : (0 : Int) = ((Opt.ev l room).2) := by
    first | (rw [hv1]; done) | exact hv2.symm | (rw [hv1, ← hdn]; done)
   have hr2 : ((Lru.trace l) : Int) = (Opt.evErr l room) := by
    first | (rw [hv1]; done) | exact hv2.symm | (rw [hv1, ← hdn]; done)
   refine q_endM (p := (none, 0)) (fun _ => False) (rt3 rfl (r_tmp rfl) (r_tmp rfl) (r_tmp rfl)) (i := 0) rfl ?_ ?_ ?_
   ·exact (by have hcc := congr (congr (congrArg (fun (y0 : List Int) (y1 : Int) (y2 : Int) => (.tuple #[.slice none y0.length 0, .int .i64 y1, .int .i64 y2] : Value)) hr0) hr1) hr2; exact hcc)
   ·intro w hw b hb; exact hb.elim
   ·intro w hw; exact Eq.mp (congrArg (fun y => SlO tInt _ w none 0 y) hr0) (SlO.nil tInt w)
  ·simp only [bne_eq_false_iff_eq] at hc3
   have htr := hc3
   have h200 := (Lru.trace_ok.1 htr).1
   have hrk := hro.resolve_left (fun h => h htr)
   have hrm := Lru.room_ok hrk
   have hnl := Opt.nexts_len l
   refine c_skip (q_then (c_seq (c_region ?_)))
   refine o_mv rfl rfl ?_
   refine o_callM rfl (nexts_ok l al cl (by omega)) hf64 (fun w hw => (rd_base (i := 0) rfl hl) w hw) rfl (fun _ _ _ _ ha hA => SlO.agree ha hA) ?_
   rintro ⟨a6, c7⟩ S4
   refine o_know (fun w hw => own_len (i := 0) (T := tInt) hw rfl) (fun hlr8 => ?_)
   refine o_as rfl rfl ?_
   refine o_nil (q_then (c_seq (c_region ?_)))
   refine o_makeMap (ν := Int) kInt (fun z : Int => Vi z) rfl (fun B9 => ?_)
   refine o_as rfl rfl ?_
   refine o_as rfl rfl ?_
   refine o_nil (q_then (c_seq (c_region ?_)))
   refine o_as rfl rfl ?_
   refine o_nil (q_then (c_seq (c_seq (c_region ?_))))
   refine o_mv rfl rfl ?_
   refine o_p (p_len_slice rfl rfl Tryz.underlying22) ?_
   refine o_mv rfl rfl ?_
   refine o_nil (q_then (c_block ?_))
   refine c_ownNil tInt ?_
   refine c_loop (St := Int × List Int × Option Addr × Nat × (Nat → Prop) × Nat × List (Int × Int))
    (fun ⟨misses, out, aout, cout, Sout, k, m⟩ => [(1, Vi room), (8, .slice a6 (Opt.nexts l).length c7), (9, .map (some B9)), (10, Vi misses), (11, .slice aout out.length cout), (32, .slice al l.length cl), (33, Vi (l.length : Int)), (34, Vi (k : Int))])
    (fun ⟨misses, out, aout, cout, Sout, k, m⟩ => [own tInt Sout aout cout out, mapE kInt (fun z : Int => Vi z) B9 m, own tInt S4 a6 c7 (Opt.nexts l), base w0])
    (fun ⟨misses, out, aout, cout, Sout, k, m⟩ => Opt.EInv l room m out misses k)
    (fun ⟨misses, out, aout, cout, Sout, k, m⟩ => l.length - k)
    (0, [], none, 0, (fun _ => False), 0, []) ?_ (sr (sr (sr (sr (sr (sr (sr (sr (Sub.nil _))))))))) (fun _ hw => hw) ?_
   ·exact Opt.EInv.start l room
   rintro ⟨misses, out, aout, cout, Sout, k, m⟩ hI K hK11
   obtain ⟨hol, hm0, hm1⟩ := hI.bd hrm.1
   have hkl := hI.le
   show SC _ _ Tryz.prog 70 w0 _ _ [(1, Vi room), (8, .slice a6 (Opt.nexts l).length c7), (9, .map (some B9)), (10, Vi misses), (11, .slice aout out.length cout), (32, .slice al l.length cl), (33, Vi (l.length : Int)), (34, Vi (k : Int))] [own tInt Sout aout cout out, mapE kInt (fun z : Int => Vi z) B9 m, own tInt S4 a6 c7 (Opt.nexts l), base w0]
   refine c_seq (c_region ?_)
   refine o_p (p_lt rfl rfl) ?_
   refine o_nil (q_then (c_seq ?_))
   refine c_cond rfl (fun hc12 => ?_) (fun hc12 => ?_)
   ·simp only [decide_eq_true_eq] at hc12
    have hnx := Opt.nexts_at (l := l) (i := k) (by omega) (by omega)
    refine c_skip (q_then (c_seq (c_block (c_seq (c_region ?_)))))
    refine o_mv rfl rfl ?_
    refine o_p (p_indexAddr (L := l) (T := tInt) (i := (k : Int)) rfl rfl (rd_base (i := 3) rfl hl) Tryz.underlying22 sz3 (by omega) (by omega)) ?_
    refine o_p (p_loadE1 (i := k) (T := tInt) (L := l) (v := Vi (l[k])) rfl (rd_base (i := 3) rfl hl) (by first | assumption | omega) sh3 rfl) ?_
    refine o_as rfl rfl ?_
    refine o_as rfl rfl ?_
    refine o_nil (q_then (c_seq (c_region ?_)))
    refine o_as rfl rfl ?_
    refine o_nil (q_then (c_seq (c_seq (c_region ?_))))
    refine o_mv rfl rfl ?_
    refine o_mv rfl rfl ?_
    refine o_p (p_lookup2 (i := 1) (K := kInt) (ve := (fun z : Int => Vi z)) (m := m) (k := l[k]) (dflt := 0) rfl rfl rfl Tryz.underlying109 Tryz.underlying3 zv3) ?_
    refine o_mv rfl rfl ?_
    refine o_ex rfl rfl rfl ?_
    refine o_ex rfl rfl rfl ?_
    refine o_as rfl rfl ?_
    refine o_as rfl rfl ?_
    refine o_nil (q_then (c_seq (c_region ?_)))
    refine o_mv rfl rfl ?_
    refine o_p (p_not (b := (AL.get m (l[k])).isSome) rfl) ?_
    refine o_nil (q_then ?_)
    refine c_cond rfl (fun hc13 => ?_) (fun hc13 => ?_)
    ·simp only [Bool.not_eq_true'] at hc13
     refine c_seq (c_region ?_)
     refine o_mv rfl rfl ?_
     refine o_p (p_addb rfl rfl (by omega)) ?_
     refine o_as rfl rfl ?_
     refine o_nil (q_then (c_seq (c_region ?_)))
     refine o_mv rfl rfl ?_
     refine o_p (p_len_map (i := 1) (K := kInt) (ve := (fun z : Int => Vi z)) (m := m) rfl rfl rfl Tryz.underlying109) ?_
     refine o_mv rfl rfl ?_
     refine o_p (p_eq rfl rfl) ?_
     refine o_nil (q_then ?_)
     refine c_cond rfl (fun hc14 => ?_) (fun hc14 => ?_)
     ·simp only [beq_iff_eq] at hc14
      refine c_seq (c_region ?_)
      refine o_mv rfl rfl ?_
      refine o_call0 (v := Vi (Opt.far m)) rfl (farthest_ok m B9 (by first | assumption | exact hI.pos)) hf65 (fun w hw => rmap_own (i := 1) rfl w hw) rfl ?_
      refine o_as rfl rfl ?_
      refine o_nil (q_then (c_region ?_))
      refine o_mv rfl rfl ?_
      refine o_mv rfl rfl ?_
      refine o_delete (i := 1) (K := kInt) (ve := (fun z : Int => Vi z)) (m := m) (k := (Opt.far m)) rfl rfl rfl rfl Tryz.underlying109 Tryz.underlying3 ?_
      refine o_nil (q_then (c_seq (c_region ?_)))
      refine o_mv rfl rfl ?_
      refine o_mv rfl rfl ?_
      refine o_mv rfl rfl ?_
      refine o_mv rfl rfl ?_
      refine o_p (p_indexAddr (L := (Opt.nexts l)) (T := tInt) (i := (k : Int)) rfl rfl (rd_own (i := 2) rfl) Tryz.underlying22 sz3 (by omega) (by omega)) ?_
      refine o_p (p_loadE1 (i := k) (T := tInt) (L := (Opt.nexts l)) (v := Vi ((Opt.nexts l)[k])) rfl (rd_own (i := 2) rfl) (by first | assumption | omega) sh3 rfl) ?_
      refine o_mapUpdate (i := 1) (K := kInt) (ve := (fun z : Int => Vi z)) (m := (AL.del m (Opt.far m))) (k := l[k]) (v := (Opt.nexts l)[k]) rfl rfl rfl rfl Tryz.underlying109 Tryz.underlying3 ?_
      refine o_nil (q_then (c_region ?_))
      refine o_mv rfl rfl ?_
      refine o_mv rfl rfl ?_
      refine o_buildSlice (m := 1) (T := tInt) (L := [(Opt.far m)]) (vs := [Vi (Opt.far m)]) rfl rfl rfl rfl Tryz.underlying22 sz3 (by decide) ze3 rfl (by decide) rfl (fun S15 a16 => ?_)
      refine o_append (i := 1) (L := out) (M := [(Opt.far m)]) (T := tInt) rfl rfl rfl (rd_own (i := 0) rfl) Tryz.underlying22 Tryz.underlying22 (by intro k h; cases h) el3 (by intro z; simp [tInt, one1]) (by decide) (by first | omega | (simp only [List.length_cons, List.length_nil]; omega) | (simp only [List.length_append, List.length_cons, List.length_nil, List.length_take, List.length_drop]; omega)) rfl (fun a18 c19 S20 => ?_)
      refine o_as rfl rfl ?_
      refine o_nil ?_
      refine q_block_normal (q_then ?_)
      refine c_region ?_
      refine o_p (p_addb rfl rfl (by omega)) ?_
      refine o_mv rfl rfl ?_
      refine o_nil ?_
      refine q_round hK11 ((misses + 1), (out ++ [(Opt.far m)]), a18, c19, S20, k + 1, (AL.set (AL.del m (Opt.far m)) (l[k]) ((Opt.nexts l)[k]))) ?_ ?_ ?_ ?_
      ·clear hK11
       first | exact hI.hit hrm.1 (by omega) (by assumption) hnx | exact hI.evict hrm.1 (by omega) (by assumption) (by assumption) hnx | exact hI.add hrm.1 (by omega) (by assumption) (by assumption) hnx
      ·(try dsimp only); omega
      ·exact sr (sr (sr (sr (sr (sr (sr (sr (Sub.nil _))))))))
      ·exact pk [1, 2, 3, 4]
     ·simp only [beq_eq_false_iff_ne, ne_eq] at hc14
      refine c_skip (q_then (c_seq (c_region ?_)))
      refine o_mv rfl rfl ?_
      refine o_mv rfl rfl ?_
      refine o_mv rfl rfl ?_
      refine o_mv rfl rfl ?_
      refine o_p (p_indexAddr (L := (Opt.nexts l)) (T := tInt) (i := (k : Int)) rfl rfl (rd_own (i := 2) rfl) Tryz.underlying22 sz3 (by omega) (by omega)) ?_
      refine o_p (p_loadE1 (i := k) (T := tInt) (L := (Opt.nexts l)) (v := Vi ((Opt.nexts l)[k])) rfl (rd_own (i := 2) rfl) (by first | assumption | omega) sh3 rfl) ?_
      refine o_mapUpdate (i := 1) (K := kInt) (ve := (fun z : Int => Vi z)) (m := m) (k := l[k]) (v := (Opt.nexts l)[k]) rfl rfl rfl rfl Tryz.underlying109 Tryz.underlying3 ?_
      refine o_nil (q_then (c_region ?_))
      refine o_mv rfl rfl ?_
      refine o_mv rfl rfl ?_
      refine o_buildSlice (m := 1) (T := tInt) (L := [(-1)]) (vs := [Vi (-1)]) rfl rfl rfl rfl Tryz.underlying22 sz3 (by decide) ze3 rfl (by decide) rfl (fun S21 a22 => ?_)
      refine o_append (i := 1) (L := out) (M := [(-1)]) (T := tInt) rfl rfl rfl (rd_own (i := 0) rfl) Tryz.underlying22 Tryz.underlying22 (by intro k h; cases h) el3 (by intro z; simp [tInt, one1]) (by decide) (by first | omega | (simp only [List.length_cons, List.length_nil]; omega) | (simp only [List.length_append, List.length_cons, List.length_nil, List.length_take, List.length_drop]; omega)) rfl (fun a24 c25 S26 => ?_)
      refine o_as rfl rfl ?_
      refine o_nil ?_
      refine q_block_normal (q_then ?_)
      refine c_region ?_
      refine o_p (p_addb rfl rfl (by omega)) ?_
      refine o_mv rfl rfl ?_
      refine o_nil ?_
      refine q_round hK11 ((misses + 1), (out ++ [(-1)]), a24, c25, S26, k + 1, (AL.set m (l[k]) ((Opt.nexts l)[k]))) ?_ ?_ ?_ ?_
      ·clear hK11
       first | exact hI.hit hrm.1 (by omega) (by assumption) hnx | exact hI.evict hrm.1 (by omega) (by assumption) (by assumption) hnx | exact hI.add hrm.1 (by omega) (by assumption) (by assumption) hnx
      ·(try dsimp only); omega
      ·exact sr (sr (sr (sr (sr (sr (sr (sr (Sub.nil _))))))))
      ·exact pk [1, 2, 3, 4]
    ·simp only [Bool.not_eq_false'] at hc13
     refine c_skip (q_then (c_seq (c_region ?_)))
     refine o_mv rfl rfl ?_
     refine o_mv rfl rfl ?_
     refine o_mv rfl rfl ?_
     refine o_mv rfl rfl ?_
     refine o_p (p_indexAddr (L := (Opt.nexts l)) (T := tInt) (i := (k : Int)) rfl rfl (rd_own (i := 2) rfl) Tryz.underlying22 sz3 (by omega) (by omega)) ?_
     refine o_p (p_loadE1 (i := k) (T := tInt) (L := (Opt.nexts l)) (v := Vi ((Opt.nexts l)[k])) rfl (rd_own (i := 2) rfl) (by first | assumption | omega) sh3 rfl) ?_
     refine o_mapUpdate (i := 1) (K := kInt) (ve := (fun z : Int => Vi z)) (m := m) (k := l[k]) (v := (Opt.nexts l)[k]) rfl rfl rfl rfl Tryz.underlying109 Tryz.underlying3 ?_
     refine o_nil (q_then (c_region ?_))
     refine o_mv rfl rfl ?_
     refine o_mv rfl rfl ?_
     refine o_buildSlice (m := 1) (T := tInt) (L := [(-1)]) (vs := [Vi (-1)]) rfl rfl rfl rfl Tryz.underlying22 sz3 (by decide) ze3 rfl (by decide) rfl (fun S27 a28 => ?_)
     refine o_append (i := 1) (L := out) (M := [(-1)]) (T := tInt) rfl rfl rfl (rd_own (i := 0) rfl) Tryz.underlying22 Tryz.underlying22 (by intro k h; cases h) el3 (by intro z; simp [tInt, one1]) (by decide) (by first | omega | (simp only [List.length_cons, List.length_nil]; omega) | (simp only [List.length_append, List.length_cons, List.length_nil, List.length_take, List.length_drop]; omega)) rfl (fun a30 c31 S32 => ?_)
     refine o_as rfl rfl ?_
     refine o_nil ?_
     refine q_block_normal (q_then ?_)
     refine c_region ?_
     refine o_p (p_addb rfl rfl (by omega)) ?_
     refine o_mv rfl rfl ?_
     refine o_nil ?_
     refine q_round hK11 (misses, (out ++ [(-1)]), a30, c31, S32, k + 1, (AL.set m (l[k]) ((Opt.nexts l)[k]))) ?_ ?_ ?_ ?_
     ·clear hK11
      first | exact hI.hit hrm.1 (by omega) (by assumption) hnx | exact hI.evict hrm.1 (by omega) (by assumption) (by assumption) hnx | exact hI.add hrm.1 (by omega) (by assumption) (by assumption) hnx
     ·(try dsimp only); omega
     ·exact sr (sr (sr (sr (sr (sr (sr (sr (Sub.nil _))))))))
     ·exact pk [1, 2, 3, 4]
   ·simp only [decide_eq_false_iff_not, Int.not_lt] at hc12
    have hdn := hI.done (by omega)
    refine c_exit ?_
    refine q_then_exit (q_then_exit (q_block_exit (q_then ?_)))
    refine c_seq (c_region ?_)
    refine o_mv rfl rfl ?_
    refine o_mv rfl rfl ?_
    refine o_as rfl rfl ?_
    refine o_as rfl rfl ?_
    refine o_as rfl rfl ?_
    refine o_nil (q_then (c_ret ?_))
    obtain ⟨hv1, hv2⟩ : _ ∧ _ := by first | exact Opt.ev2 (room := room) hbad.1 hbad.2 | exact Opt.ev3 (room := room) htr hrk | exact Opt.ev1 (room := room) (by assumption)
    have hr0 : (out : List Int) = ((Opt.ev l room).1) := by
     first | (rw [hv1]; done) | exact hv2.symm | (rw [hv1, ← hdn]; done)
    have hr1 : (misses : Int) = ((Opt.ev l room).2) := by
     first | (rw [hv1]; done) | exact hv2.symm | (rw [hv1, ← hdn]; done)
    have hr2 : (0 : Int) = (Opt.evErr l room) := by
     first | (rw [hv1]; done) | exact hv2.symm | (rw [hv1, ← hdn]; done)
    refine q_endM (p := (aout, cout)) Sout (rt3 rfl (r_tmp rfl) (r_tmp rfl) (r_tmp rfl)) (i := 3) rfl ?_ ?_ ?_
    ·exact (by have hcc := congr (congr (congrArg (fun (y0 : List Int) (y1 : Int) (y2 : Int) => (.tuple #[.slice aout y0.length cout, .int .i64 y1, .int .i64 y2] : Value)) hr0) hr1) hr2; exact hcc)
    ·exact fun w hw => hw.above (i := 3) (j := 0) (by decide) rfl rfl
    ·intro w hw; exact Eq.mp (congrArg (fun y => SlO tInt _ w aout cout y) hr0) ((hw.at (i := 0) rfl).here)
end Go.Proofs.YtfncgfcehkalnaaGreat

/- The walks, printed by a program from the translation and a specification. -/
namespace Go.Proofs.YtfncgfcehkalnaaGreat
open Go.Sx Go.RowKit
set_option maxHeartbeats 8000000 in
set_option maxRecDepth 100000 in
theorem runs1_ok (l : List Int) (al : Option Addr) (cl : Nat) (room : Int) (hy1 : Lru.trace l = 0 ∧ 2 ≤ room ∧ room ≤ 40) : Fn0 Tryz.prog 30 [.slice al l.length cl, Vi room] (fun w => Rd tInt w al cl l) (Vi (Cmp.by_ l room 1)) := by
 refine fn0 (nt := 17) (F0 := [(0, .slice al l.length cl), (1, Vi room)]) Tryz.func30 rfl Tryz.ntmps30 rfl rfl (fun w0 hpre => ?_)
 have hl := hpre
 have hlhl := hl.2.1
 have h200 := (Lru.trace_ok.1 hy1.1).1
 have ht2 : room.tdiv 2 = room / 2 := Int.tdiv_eq_ediv_of_nonneg (by omega)
 refine c_seq (c_region ?_)
 refine o_as rfl rfl ?_
 refine o_nil (q_then (c_seq (c_region ?_)))
 refine o_mv rfl rfl ?_
 refine o_p (p_build (cells := [Vi room, .slice none 0 0]) fp44 ze44 rfl rfl) ?_
 refine o_mv rfl rfl ?_
 refine o_callM rfl (lrun_ok (⟨room, []⟩ : DCache) none 0 l al cl) hf31 (fun w hw => ⟨rd_nil w hw, (rd_base (i := 0) rfl hl) w hw⟩) rfl (fun _ _ _ _ ha hA => SlO.agree ha hA) ?_
 rintro ⟨a3, c4⟩ S1
 refine o_know (fun w hw => own_len (i := 0) (T := tInt) hw rfl) (fun hlr5 => ?_)
 refine o_mv rfl rfl ?_
 refine o_ex rfl rfl rfl ?_
 refine o_ex rfl rfl rfl ?_
 refine o_ex rfl rfl rfl ?_
 refine o_alloc ze44 rfl (fun B6 => ?_)
 refine o_storeN (i := 0) (vs := [Vi (((Lru.run (⟨room, []⟩ : DCache) l).1).room), .slice a3 (((Lru.run (⟨room, []⟩ : DCache) l).1).keys).length c4]) (cs' := [Vi (((Lru.run (⟨room, []⟩ : DCache) l).1).room), .slice a3 (((Lru.run (⟨room, []⟩ : DCache) l).1).keys).length c4]) rfl rfl rfl sz44 rfl rfl rfl rfl ?_
 refine o_as rfl rfl ?_
 refine o_as rfl rfl ?_
 refine o_nil (q_then (c_seq (c_region ?_)))
 refine o_mv rfl rfl ?_
 refine o_as rfl rfl ?_
 refine o_nil (q_then (c_ret ?_))
 have hr0 : (((Lru.run (⟨room, []⟩ : DCache) l).2) : Int) = (Cmp.by_ l room 1) := by
  rfl
 refine q_end0 (v := Vi ((Lru.run (⟨room, []⟩ : DCache) l).2)) (rt1 rfl (r_tmp rfl)) (i := 2) rfl ?_
 exact (by have hcc := congrArg (fun (y0 : Int) => (.int .i64 y0 : Value)) hr0; exact hcc)

set_option maxHeartbeats 8000000 in
set_option maxRecDepth 100000 in
theorem runs2_ok (l : List Int) (al : Option Addr) (cl : Nat) (room : Int) (hy1 : Lru.trace l = 0 ∧ 2 ≤ room ∧ room ≤ 40) : Fn0 Tryz.prog 32 [.slice al l.length cl, Vi room] (fun w => Rd tInt w al cl l) (Vi (Cmp.by_ l room 2)) := by
 refine fn0 (nt := 17) (F0 := [(0, .slice al l.length cl), (1, Vi room)]) Tryz.func32 rfl Tryz.ntmps32 rfl rfl (fun w0 hpre => ?_)
 have hl := hpre
 have hlhl := hl.2.1
 have h200 := (Lru.trace_ok.1 hy1.1).1
 have ht2 : room.tdiv 2 = room / 2 := Int.tdiv_eq_ediv_of_nonneg (by omega)
 refine c_seq (c_region ?_)
 refine o_as rfl rfl ?_
 refine o_nil (q_then (c_seq (c_region ?_)))
 refine o_mv rfl rfl ?_
 refine o_p (p_build (cells := [Vi room, Vi 0, .slice none 0 0]) fp49 ze49 rfl rfl) ?_
 refine o_mv rfl rfl ?_
 refine o_callM rfl (run_ok (⟨room, 0, []⟩ : DClock) none 0 l al cl) hf33 (fun w hw => ⟨rd_nil w hw, (rd_base (i := 0) rfl hl) w hw⟩) rfl (fun _ _ _ _ ha hA => SlO.agree ha hA) ?_
 rintro ⟨a3, c4⟩ S1
 refine o_know (fun w hw => own_len (i := 0) (T := tFrame) hw rfl) (fun hlr5 => ?_)
 refine o_mv rfl rfl ?_
 refine o_ex rfl rfl rfl ?_
 refine o_ex rfl rfl rfl ?_
 refine o_ex rfl rfl rfl ?_
 refine o_alloc ze49 rfl (fun B6 => ?_)
 refine o_storeN (i := 0) (vs := [Vi (((Clock.run (⟨room, 0, []⟩ : DClock) l).1).room), Vi (((Clock.run (⟨room, 0, []⟩ : DClock) l).1).hand), .slice a3 (((Clock.run (⟨room, 0, []⟩ : DClock) l).1).frames).length c4]) (cs' := [Vi (((Clock.run (⟨room, 0, []⟩ : DClock) l).1).room), Vi (((Clock.run (⟨room, 0, []⟩ : DClock) l).1).hand), .slice a3 (((Clock.run (⟨room, 0, []⟩ : DClock) l).1).frames).length c4]) rfl rfl rfl sz49 rfl rfl rfl rfl ?_
 refine o_as rfl rfl ?_
 refine o_as rfl rfl ?_
 refine o_nil (q_then (c_seq (c_region ?_)))
 refine o_mv rfl rfl ?_
 refine o_as rfl rfl ?_
 refine o_nil (q_then (c_ret ?_))
 have hr0 : (((Clock.run (⟨room, 0, []⟩ : DClock) l).2) : Int) = (Cmp.by_ l room 2) := by
  rfl
 refine q_end0 (v := Vi ((Clock.run (⟨room, 0, []⟩ : DClock) l).2)) (rt1 rfl (r_tmp rfl)) (i := 2) rfl ?_
 exact (by have hcc := congrArg (fun (y0 : Int) => (.int .i64 y0 : Value)) hr0; exact hcc)

set_option maxHeartbeats 8000000 in
set_option maxRecDepth 100000 in
theorem runs3_ok (l : List Int) (al : Option Addr) (cl : Nat) (room : Int) (hy1 : Lru.trace l = 0 ∧ 2 ≤ room ∧ room ≤ 40) : Fn0 Tryz.prog 34 [.slice al l.length cl, Vi room] (fun w => Rd tInt w al cl l) (Vi (Cmp.by_ l room 3)) := by
 refine fn0 (nt := 17) (F0 := [(0, .slice al l.length cl), (1, Vi room)]) Tryz.func34 rfl Tryz.ntmps34 rfl rfl (fun w0 hpre => ?_)
 have hl := hpre
 have hlhl := hl.2.1
 have h200 := (Lru.trace_ok.1 hy1.1).1
 have ht2 : room.tdiv 2 = room / 2 := Int.tdiv_eq_ediv_of_nonneg (by omega)
 refine c_seq (c_region ?_)
 refine o_as rfl rfl ?_
 refine o_nil (q_then (c_seq (c_region ?_)))
 refine o_mv rfl rfl ?_
 refine o_p (p_build (cells := [Vi room, .slice none 0 0]) fp54 ze54 rfl rfl) ?_
 refine o_mv rfl rfl ?_
 refine o_callM rfl (frun_ok (⟨room, []⟩ : DUses) none 0 l al cl) hf35 (fun w hw => ⟨rd_nil w hw, (rd_base (i := 0) rfl hl) w hw⟩) rfl (fun _ _ _ _ ha hA => SlO.agree ha hA) ?_
 rintro ⟨a3, c4⟩ S1
 refine o_know (fun w hw => own_len (i := 0) (T := tUse) hw rfl) (fun hlr5 => ?_)
 refine o_mv rfl rfl ?_
 refine o_ex rfl rfl rfl ?_
 refine o_ex rfl rfl rfl ?_
 refine o_ex rfl rfl rfl ?_
 refine o_alloc ze54 rfl (fun B6 => ?_)
 refine o_storeN (i := 0) (vs := [Vi (((Lfu.run (⟨room, []⟩ : DUses) l).1).room), .slice a3 (((Lfu.run (⟨room, []⟩ : DUses) l).1).list).length c4]) (cs' := [Vi (((Lfu.run (⟨room, []⟩ : DUses) l).1).room), .slice a3 (((Lfu.run (⟨room, []⟩ : DUses) l).1).list).length c4]) rfl rfl rfl sz54 rfl rfl rfl rfl ?_
 refine o_as rfl rfl ?_
 refine o_as rfl rfl ?_
 refine o_nil (q_then (c_seq (c_region ?_)))
 refine o_mv rfl rfl ?_
 refine o_as rfl rfl ?_
 refine o_nil (q_then (c_ret ?_))
 have hr0 : (((Lfu.run (⟨room, []⟩ : DUses) l).2) : Int) = (Cmp.by_ l room 3) := by
  rfl
 refine q_end0 (v := Vi ((Lfu.run (⟨room, []⟩ : DUses) l).2)) (rt1 rfl (r_tmp rfl)) (i := 2) rfl ?_
 exact (by have hcc := congrArg (fun (y0 : Int) => (.int .i64 y0 : Value)) hr0; exact hcc)

set_option maxHeartbeats 8000000 in
set_option maxRecDepth 100000 in
theorem runs4_ok (l : List Int) (al : Option Addr) (cl : Nat) (room : Int) (hy1 : Lru.trace l = 0 ∧ 2 ≤ room ∧ room ≤ 40) : Fn0 Tryz.prog 36 [.slice al l.length cl, Vi room] (fun w => Rd tInt w al cl l) (Vi (Cmp.by_ l room 4)) := by
 refine fn0 (nt := 22) (F0 := [(0, .slice al l.length cl), (1, Vi room)]) Tryz.func36 rfl Tryz.ntmps36 rfl rfl (fun w0 hpre => ?_)
 have hl := hpre
 have hlhl := hl.2.1
 have h200 := (Lru.trace_ok.1 hy1.1).1
 have ht2 : room.tdiv 2 = room / 2 := Int.tdiv_eq_ediv_of_nonneg (by omega)
 refine c_seq (c_region ?_)
 refine o_as rfl rfl ?_
 refine o_nil (q_then (c_seq (c_region ?_)))
 refine o_mv rfl rfl ?_
 refine o_p (p_quob (p := room) (q := 2) rfl rfl (by decide) (by omega)) ?_
 refine o_mv rfl rfl ?_
 refine o_mv rfl rfl ?_
 refine o_p (p_quob (p := room) (q := 2) rfl rfl (by decide) (by omega)) ?_
 refine o_p (p_subb rfl rfl (by omega)) ?_
 refine o_p (p_build (cells := [Vi (room.tdiv 2), Vi (room - (room.tdiv 2)), .slice none 0 0, .slice none 0 0]) fp58 ze58 rfl rfl) ?_
 refine o_mv rfl rfl ?_
 refine o_callM rfl (srun_ok (⟨(room.tdiv 2), (room - (room.tdiv 2)), [], []⟩ : DHalls) none 0 none 0 l al cl) hf37 (fun w hw => ⟨rd_nil w hw, rd_nil w hw, (rd_base (i := 0) rfl hl) w hw⟩) rfl (fun _ _ _ _ ha hA => ⟨SlR.agree ha hA.1, SlR.agree ha hA.2⟩) ?_
 rintro ⟨a3, c4, a5, c6⟩ S1
 refine o_know (fun w hw => (hw.at (i := 0) rfl).here.1.2.1) (fun hlr7 => ?_)
 refine o_know (fun w hw => (hw.at (i := 0) rfl).here.2.2.1) (fun hlr8 => ?_)
 refine o_mv rfl rfl ?_
 refine o_ex rfl rfl rfl ?_
 refine o_ex rfl rfl rfl ?_
 refine o_ex rfl rfl rfl ?_
 refine o_alloc ze58 rfl (fun B9 => ?_)
 refine o_storeN (i := 0) (vs := [Vi (((Seg.run (⟨(room.tdiv 2), (room - (room.tdiv 2)), [], []⟩ : DHalls) l).1).first), Vi (((Seg.run (⟨(room.tdiv 2), (room - (room.tdiv 2)), [], []⟩ : DHalls) l).1).second), .slice a3 (((Seg.run (⟨(room.tdiv 2), (room - (room.tdiv 2)), [], []⟩ : DHalls) l).1).young).length c4, .slice a5 (((Seg.run (⟨(room.tdiv 2), (room - (room.tdiv 2)), [], []⟩ : DHalls) l).1).old).length c6]) (cs' := [Vi (((Seg.run (⟨(room.tdiv 2), (room - (room.tdiv 2)), [], []⟩ : DHalls) l).1).first), Vi (((Seg.run (⟨(room.tdiv 2), (room - (room.tdiv 2)), [], []⟩ : DHalls) l).1).second), .slice a3 (((Seg.run (⟨(room.tdiv 2), (room - (room.tdiv 2)), [], []⟩ : DHalls) l).1).young).length c4, .slice a5 (((Seg.run (⟨(room.tdiv 2), (room - (room.tdiv 2)), [], []⟩ : DHalls) l).1).old).length c6]) rfl rfl rfl sz58 rfl rfl rfl rfl ?_
 refine o_as rfl rfl ?_
 refine o_as rfl rfl ?_
 refine o_nil (q_then (c_seq (c_region ?_)))
 refine o_mv rfl rfl ?_
 refine o_as rfl rfl ?_
 refine o_nil (q_then (c_ret ?_))
 have hr0 : (((Seg.run (⟨(room.tdiv 2), (room - (room.tdiv 2)), [], []⟩ : DHalls) l).2) : Int) = (Cmp.by_ l room 4) := by
  rfl
 refine q_end0 (v := Vi ((Seg.run (⟨(room.tdiv 2), (room - (room.tdiv 2)), [], []⟩ : DHalls) l).2)) (rt1 rfl (r_tmp rfl)) (i := 2) rfl ?_
 exact (by have hcc := congrArg (fun (y0 : Int) => (.int .i64 y0 : Value)) hr0; exact hcc)

set_option maxHeartbeats 8000000 in
set_option maxRecDepth 100000 in
theorem runs5_ok (l : List Int) (al : Option Addr) (cl : Nat) (room : Int) (hy1 : Lru.trace l = 0 ∧ 2 ≤ room ∧ room ≤ 40) : Fn0 Tryz.prog 38 [.slice al l.length cl, Vi room] (fun w => Rd tInt w al cl l) (Vi (Cmp.by_ l room 5)) := by
 refine fn0 (nt := 19) (F0 := [(0, .slice al l.length cl), (1, Vi room)]) Tryz.func38 rfl Tryz.ntmps38 rfl rfl (fun w0 hpre => ?_)
 have hl := hpre
 have hlhl := hl.2.1
 have h200 := (Lru.trace_ok.1 hy1.1).1
 have ht2 : room.tdiv 2 = room / 2 := Int.tdiv_eq_ediv_of_nonneg (by omega)
 have hev := Opt.ev_bd2 hy1.1 (room := room) (by omega)
 refine c_seq (c_region ?_)
 refine o_as rfl rfl ?_
 refine o_nil (q_then (c_seq (c_region ?_)))
 refine o_mv rfl rfl ?_
 refine o_mv rfl rfl ?_
 refine o_callM rfl (oevict_ok l al cl room) hf39 (fun w hw => (rd_base (i := 0) rfl hl) w hw) rfl (fun _ _ _ _ ha hA => SlO.agree ha hA) ?_
 rintro ⟨a3, c4⟩ S1
 refine o_know (fun w hw => own_len (i := 0) (T := tInt) hw rfl) (fun hlr5 => ?_)
 refine o_mv rfl rfl ?_
 refine o_ex rfl rfl rfl ?_
 refine o_ex rfl rfl rfl ?_
 refine o_ex rfl rfl rfl ?_
 refine o_as rfl rfl ?_
 refine o_as rfl rfl ?_
 refine o_as rfl rfl ?_
 refine o_nil (q_then (c_seq (c_region ?_)))
 refine o_mv rfl rfl ?_
 refine o_p (p_len_slice rfl rfl Tryz.underlying22) ?_
 refine o_mv rfl rfl ?_
 refine o_p (p_subb rfl rfl (by omega)) ?_
 refine o_as rfl rfl ?_
 refine o_nil (q_then (c_ret ?_))
 have hr0 : (((l.length : Int) - ((Opt.ev l room).2)) : Int) = (Cmp.by_ l room 5) := by
  rfl
 refine q_end0 (v := Vi ((l.length : Int) - ((Opt.ev l room).2))) (rt1 rfl (r_tmp rfl)) (i := 1) rfl ?_
 exact (by have hcc := congrArg (fun (y0 : Int) => (.int .i64 y0 : Value)) hr0; exact hcc)

set_option maxHeartbeats 8000000 in
set_option maxRecDepth 100000 in
theorem runs_ok  : FnM Tryz.prog 15 [] (fun _ => True) (Option Addr × Nat) (fun p => .slice p.1 ([30, 32, 34, 36, 38]).length p.2) (fun p S w => SlO tFun S w p.1 p.2 ([30, 32, 34, 36, 38])) := by
 refine fnM (nt := 2) (F0 := []) Tryz.func15 rfl Tryz.ntmps15 rfl rfl (fun w0 hpre => ?_)
 refine c_seq (c_region ?_)
 refine o_as rfl rfl ?_
 refine o_nil (q_then (c_seq (c_region ?_)))
 refine o_buildSlice (m := 5) (T := tFun) (L := [30, 32, 34, 36, 38]) (vs := [.func (.func 30) #[] #[], .func (.func 32) #[] #[], .func (.func 34) #[] #[], .func (.func 36) #[] #[], .func (.func 38) #[] #[]]) rfl rfl rfl rfl Tryz.underlying35 sz37 (by decide) ze37 rfl (by decide) rfl (fun S1 a2 => ?_)
 refine o_as rfl rfl ?_
 refine o_nil (q_then (c_ret ?_))
 refine q_endM (p := (a2, [30, 32, 34, 36, 38].length)) S1 (rt1 rfl (r_tmp rfl)) (i := 1) rfl ?_ ?_ ?_
 ·exact rfl
 ·exact fun w hw => hw.above (i := 1) (j := 0) (by decide) rfl rfl
 ·intro w hw; exact (hw.at (i := 0) rfl).here
set_option maxRecDepth 100000 in
theorem runsAt_ok (l : List Int) (al : Option Addr) (cl : Nat) (room : Int) (hy : Lru.trace l = 0 ∧ 2 ≤ room ∧ room ≤ 40) (i : Nat) (hi : i < 5) : Fn0 Tryz.prog ([30, 32, 34, 36, 38].getD i default) [.slice al l.length cl, Vi room] (fun w => Rd tInt w al cl l) (Vi (Cmp.by_ l room ((i : Int) + 1))) := by
 match i, hi with
 | 0, _ => exact runs1_ok l al cl room hy
 | 1, _ => exact runs2_ok l al cl room hy
 | 2, _ => exact runs3_ok l al cl room hy
 | 3, _ => exact runs4_ok l al cl room hy
 | 4, _ => exact runs5_ok l al cl room hy
theorem runsAt2_ok (l : List Int) (al : Option Addr) (cl : Nat) (room : Int) (hy : Lru.trace l = 0 ∧ 2 ≤ room ∧ room ≤ 40) (n : Int) (hn : 1 ≤ n ∧ n ≤ 5) : Fn0 Tryz.prog ([30, 32, 34, 36, 38].getD (n - 1).toNat default) [.slice al l.length cl, Vi room] (fun w => Rd tInt w al cl l) (Vi (Cmp.by_ l room n)) := by
 have h := runsAt_ok l al cl room hy (n - 1).toNat (by omega)
 rw [show (((n - 1).toNat : Nat) : Int) + 1 = n by omega] at h
 exact h
theorem runsAt_has (i : Nat) (hi : i < 5) : HasFn Tryz.prog ([30, 32, 34, 36, 38].getD i default) := by
 match i, hi with
 | 0, _ => exact hf30
 | 1, _ => exact hf32
 | 2, _ => exact hf34
 | 3, _ => exact hf36
 | 4, _ => exact hf38

set_option maxHeartbeats 8000000 in
set_option maxRecDepth 100000 in
theorem cpcheck_ok (l : List Int) (al : Option Addr) (cl : Nat) (room : Int) : Fn0 Tryz.prog 14 [.slice al l.length cl, Vi room] (fun w => Rd tInt w al cl l) (Vi (Cmp.check l room)) := by
 refine fn0 (nt := 19) (F0 := [(0, .slice al l.length cl), (1, Vi room)]) Tryz.func14 rfl Tryz.ntmps14 rfl rfl (fun w0 hpre => ?_)
 have hl := hpre
 have hlhl := hl.2.1
 refine c_seq (c_region ?_)
 refine o_as rfl rfl ?_
 refine o_nil (q_then (c_seq (c_region ?_)))
 refine o_mv rfl rfl ?_
 refine o_call0 (v := Vi (Lru.trace l)) rfl (checkTrace_ok l al cl) hf29 (fun w hw => (rd_base (i := 0) rfl hl) w hw) rfl ?_
 refine o_as rfl rfl ?_
 refine o_nil (q_then (c_seq (c_seq (c_region ?_))))
 refine o_mv rfl rfl ?_
 refine o_p (p_eq rfl rfl) ?_
 refine o_mv rfl rfl ?_
 refine o_and (p := 17) 7 (decide (room < 2) || decide (40 < room)) ?_ ?_ ?_
 ·intro hb1 hk
  simp only [beq_iff_eq] at hb1
  refine o_unguard 10 rfl rfl ?_
  refine o_mv rfl rfl ?_
  refine o_unguard 10 rfl rfl ?_
  refine o_p (p_lt rfl rfl) ?_
  refine o_unguard 10 rfl rfl ?_
  refine o_mv rfl rfl ?_
  refine o_or (p := 16) 3 (decide (40 < room)) ?_ ?_ ?_
  ·intro hb2 hk
   simp only [decide_eq_false_iff_not, Int.not_lt] at hb2
   refine o_unguard 13 rfl rfl ?_
   refine o_mv rfl rfl ?_
   refine o_unguard 13 rfl rfl ?_
   refine o_p (p_gt rfl rfl) ?_
   refine o_unguard 10 rfl rfl ?_
   refine o_pf rfl rfl rfl ?_
   exact o_sub (sr (Sub.skip rfl (Sub.skip rfl (Sub.skip rfl (Sub.skip rfl (Sub.refl _)))))) hk
  ·intro hb2 hk
   refine o_guard_no rfl 13 rfl rfl rfl rfl rfl ?_
   refine o_guard_no rfl 13 rfl rfl rfl rfl rfl ?_
   refine o_unguard 10 rfl rfl ?_
   refine o_pt rfl rfl rfl ?_
   exact o_sub (sr (Sub.skip rfl (Sub.skip rfl (Sub.skip rfl (Sub.skip rfl (Sub.refl _)))))) hk
  refine o_pt rfl rfl rfl ?_
  exact o_sub (sr (Sub.skip rfl (Sub.skip rfl (Sub.skip rfl (Sub.skip rfl (Sub.skip rfl (Sub.refl _))))))) hk
 ·intro hb1 hk
  refine o_guard_no rfl 10 rfl rfl rfl rfl rfl ?_
  refine o_guard_no rfl 10 rfl rfl rfl rfl rfl ?_
  refine o_guard_no rfl 10 rfl rfl rfl rfl rfl ?_
  refine o_guard_no rfl 13 rfl rfl rfl rfl rfl ?_
  refine o_guard_no rfl 13 rfl rfl rfl rfl rfl ?_
  refine o_guard_no rfl 10 rfl rfl rfl rfl rfl ?_
  refine o_pf rfl rfl rfl ?_
  exact o_sub (sr (Sub.skip rfl (Sub.skip rfl (Sub.skip rfl (Sub.skip rfl (Sub.skip rfl (Sub.skip rfl (Sub.skip rfl (Sub.skip rfl (Sub.refl _)))))))))) hk
 refine o_nil (q_then ?_)
 refine c_cond rfl (fun hc3 => ?_) (fun hc3 => ?_)
 ·simp only [Bool.and_eq_true, beq_iff_eq, Bool.or_eq_true, decide_eq_true_eq] at hc3
  refine c_region ?_
  refine o_as rfl rfl ?_
  refine o_nil (q_then (c_seq (c_region ?_)))
  refine o_mv rfl rfl ?_
  refine o_as rfl rfl ?_
  refine o_nil (q_then (c_ret ?_))
  have hr0 : (3 : Int) = (Cmp.check l room) := by
   first | exact Cmp.chk1 (by omega) | exact Cmp.chk2 (by omega)
  refine q_end0 (v := Vi 3) (rt1 rfl (r_tmp rfl)) (i := 0) rfl ?_
  exact (by have hcc := congrArg (fun (y0 : Int) => (.int .i64 y0 : Value)) hr0; exact hcc)
 ·simp only [Bool.and_eq_false_iff, beq_eq_false_iff_ne, ne_eq, Bool.or_eq_false_iff, decide_eq_false_iff_not, Int.not_lt] at hc3
  refine c_skip (q_then (c_seq (c_region ?_)))
  refine o_mv rfl rfl ?_
  refine o_as rfl rfl ?_
  refine o_nil (q_then (c_ret ?_))
  have hr0 : ((Lru.trace l) : Int) = (Cmp.check l room) := by
   first | exact Cmp.chk1 (by omega) | exact Cmp.chk2 (by omega)
  refine q_end0 (v := Vi (Lru.trace l)) (rt1 rfl (r_tmp rfl)) (i := 0) rfl ?_
  exact (by have hcc := congrArg (fun (y0 : Int) => (.int .i64 y0 : Value)) hr0; exact hcc)

set_option maxHeartbeats 8000000 in
set_option maxRecDepth 100000 in
theorem cphits_ok (l : List Int) (al : Option Addr) (cl : Nat) (room : Int) : FnM Tryz.prog 5 [.slice al l.length cl, Vi room] (fun w => Rd tInt w al cl l) (Option Addr × Nat) (fun p => .tuple #[.slice p.1 (Cmp.hits l room).length p.2, Vi (Cmp.check l room)]) (fun p S w => SlO tInt S w p.1 p.2 (Cmp.hits l room)) := by
 refine fnM (nt := 31) (F0 := [(0, .slice al l.length cl), (1, Vi room)]) Tryz.func5 rfl Tryz.ntmps5 rfl rfl (fun w0 hpre => ?_)
 have hl := hpre
 have hlhl := hl.2.1
 refine c_seq (c_region ?_)
 refine o_as rfl rfl ?_
 refine o_as rfl rfl ?_
 refine o_nil (q_then (c_seq (c_seq (c_region ?_))))
 refine o_mv rfl rfl ?_
 refine o_mv rfl rfl ?_
 refine o_call0 (v := Vi (Cmp.check l room)) rfl (cpcheck_ok l al cl room) hf14 (fun w hw => (rd_base (i := 0) rfl hl) w hw) rfl ?_
 refine o_as rfl rfl ?_
 refine o_nil (q_then (c_seq (c_region ?_)))
 refine o_mv rfl rfl ?_
 refine o_p (p_ne rfl rfl) ?_
 refine o_nil (q_then ?_)
 refine c_cond rfl (fun hc1 => ?_) (fun hc1 => ?_)
 ·simp only [bne_iff_ne, ne_eq] at hc1
  refine c_seq (c_region ?_)
  refine o_mv rfl rfl ?_
  refine o_as rfl rfl ?_
  refine o_as rfl rfl ?_
  refine o_nil (q_then (c_ret ?_))
  refine q_then_ret ?_
  have hr0 : ([] : List Int) = (Cmp.hits l room) := by
   first | rfl | exact (Cmp.hits_bad (by assumption)).symm | exact hck.symm | (rw [Cmp.hits_ok hck, hI.2, show k = 5 by omega])
  refine q_endM (p := (none, 0)) (fun _ => False) (rt2 rfl (r_tmp rfl) (r_tmp rfl)) (i := 0) rfl ?_ ?_ ?_
  ·exact (by have hcc := congrArg (fun (y0 : List Int) => (.tuple #[.slice none y0.length 0, Vi (Cmp.check l room)] : Value)) hr0; exact hcc)
  ·intro w hw b hb; exact hb.elim
  ·intro w hw; exact Eq.mp (congrArg (fun y => SlO tInt _ w none 0 y) hr0) (SlO.nil tInt w)
 ·simp only [bne_eq_false_iff_eq] at hc1
  have hck := hc1
  have hok := Cmp.chk_ok.1 hc1
  have h200 := (Lru.trace_ok.1 hok.1).1
  have hl5 : [30, 32, 34, 36, 38].length = 5 := rfl
  refine c_skip (q_then (c_seq (c_region ?_)))
  refine o_as rfl rfl ?_
  refine o_nil (q_then (c_seq (c_seq (c_region ?_))))
  refine o_callM rfl (runs_ok ) hf15 (fun _ _ => trivial) rfl (fun _ _ _ _ ha hA => SlO.agree ha hA) ?_
  rintro ⟨a4, c5⟩ S2
  refine o_know (fun w hw => own_len (i := 0) (T := tFun) hw rfl) (fun hlr6 => ?_)
  refine o_p (p_len_slice rfl rfl Tryz.underlying35) ?_
  refine o_mv rfl rfl ?_
  refine o_nil (q_then (c_block ?_))
  refine c_ownNil tInt ?_
  refine c_loop (St := List Int × Option Addr × Nat × (Nat → Prop) × Nat)
   (fun ⟨out, aout, cout, Sout, k⟩ => [(0, .slice al l.length cl), (1, Vi room), (7, .slice aout out.length cout), (16, .slice a4 ([30, 32, 34, 36, 38]).length c5), (17, Vi (([30, 32, 34, 36, 38]).length : Int)), (18, Vi (k : Int))])
   (fun ⟨out, aout, cout, Sout, k⟩ => [own tInt Sout aout cout out, own tFun S2 a4 c5 ([30, 32, 34, 36, 38]), base w0])
   (fun ⟨out, aout, cout, Sout, k⟩ => k ≤ 5 ∧ out = (List.range k).map (fun i : Nat => Cmp.by_ l room ((i : Int) + 1)))
   (fun ⟨out, aout, cout, Sout, k⟩ => 5 - k)
   ([], none, 0, (fun _ => False), 0) ?_ (sr (sr (sr (sr (sr (sr (Sub.nil _))))))) (fun _ hw => hw) ?_
  ·exact ⟨Nat.zero_le _, rfl⟩
  rintro ⟨out, aout, cout, Sout, k⟩ hI K hK8
  have hol : out.length = k := by rw [hI.2]; simp
  show SC _ _ Tryz.prog 31 w0 _ _ [(0, .slice al l.length cl), (1, Vi room), (7, .slice aout out.length cout), (16, .slice a4 ([30, 32, 34, 36, 38]).length c5), (17, Vi (([30, 32, 34, 36, 38]).length : Int)), (18, Vi (k : Int))] [own tInt Sout aout cout out, own tFun S2 a4 c5 ([30, 32, 34, 36, 38]), base w0]
  refine c_seq (c_region ?_)
  refine o_p (p_lt rfl rfl) ?_
  refine o_nil (q_then (c_seq ?_))
  refine c_cond rfl (fun hc9 => ?_) (fun hc9 => ?_)
  ·simp only [decide_eq_true_eq] at hc9
   refine c_skip (q_then (c_seq (c_block (c_seq (c_region ?_)))))
   refine o_p (p_indexAddr (L := ([30, 32, 34, 36, 38])) (T := tFun) (i := (k : Int)) rfl rfl (rd_own (i := 1) rfl) Tryz.underlying35 sz37 (by omega) (by omega)) ?_
   refine o_p (p_loadE1 (i := k) (T := tFun) (L := ([30, 32, 34, 36, 38])) (v := .func (.func (([30, 32, 34, 36, 38]).getD k default)) #[] #[]) rfl (rd_own (i := 1) rfl) (by first | assumption | omega) sh37 (congrArg tFun.enc (getd_at (by first | assumption | omega) default))) ?_
   refine o_as rfl rfl ?_
   refine o_nil (q_then (c_region ?_))
   refine o_mv rfl rfl ?_
   refine o_mv rfl rfl ?_
   refine o_mv rfl rfl ?_
   refine o_mv rfl rfl ?_
   refine o_call0V (f := (([30, 32, 34, 36, 38]).getD k default)) (vs := [.slice al l.length cl, Vi room]) (caps := []) (v := Vi (Cmp.by_ l room ((k : Int) + 1))) rfl rfl (runsAt_ok l al cl room hok k (by omega)) (runsAt_has k (by omega)) (fun w hw => (rd_base (i := 2) rfl hl) w hw) rfl ?_
   refine o_buildSlice (m := 1) (T := tInt) (L := [(Cmp.by_ l room ((k : Int) + 1))]) (vs := [Vi (Cmp.by_ l room ((k : Int) + 1))]) rfl rfl rfl rfl Tryz.underlying22 sz3 (by decide) ze3 rfl (by decide) rfl (fun S10 a11 => ?_)
   refine o_append (i := 1) (L := out) (M := [(Cmp.by_ l room ((k : Int) + 1))]) (T := tInt) rfl rfl rfl (rd_own (i := 0) rfl) Tryz.underlying22 Tryz.underlying22 (by intro k h; cases h) el3 (by intro z; simp [tInt, one1]) (by decide) (by first | omega | (simp only [List.length_cons, List.length_nil]; omega) | (simp only [List.length_append, List.length_cons, List.length_nil, List.length_take, List.length_drop]; omega)) rfl (fun a13 c14 S15 => ?_)
   refine o_as rfl rfl ?_
   refine o_nil ?_
   refine q_block_normal (q_then ?_)
   refine c_region ?_
   refine o_p (p_addb rfl rfl (by omega)) ?_
   refine o_mv rfl rfl ?_
   refine o_nil ?_
   refine q_round hK8 ((out ++ [(Cmp.by_ l room ((k : Int) + 1))]), a13, c14, S15, k + 1) ?_ ?_ ?_ ?_
   ·clear hK8
    exact ⟨by omega, (congrArg (fun z => z ++ [_]) hI.2).trans (Cmp.map_next _ k)⟩
   ·(try dsimp only); omega
   ·exact sr (sr (sr (sr (sr (sr (Sub.nil _))))))
   ·exact pk [1, 2, 3]
  ·simp only [decide_eq_false_iff_not, Int.not_lt] at hc9
   refine c_exit ?_
   refine q_then_exit (q_then_exit (q_block_exit (q_then ?_)))
   refine c_seq (c_region ?_)
   refine o_mv rfl rfl ?_
   refine o_as rfl rfl ?_
   refine o_as rfl rfl ?_
   refine o_nil (q_then (c_ret ?_))
   have hr0 : (out : List Int) = (Cmp.hits l room) := by
    first | rfl | exact (Cmp.hits_bad (by assumption)).symm | exact hck.symm | (rw [Cmp.hits_ok hck, hI.2, show k = 5 by omega])
   have hr1 : (0 : Int) = (Cmp.check l room) := by
    first | rfl | exact (Cmp.hits_bad (by assumption)).symm | exact hck.symm | (rw [Cmp.hits_ok hck, hI.2, show k = 5 by omega])
   refine q_endM (p := (aout, cout)) Sout (rt2 rfl (r_tmp rfl) (r_tmp rfl)) (i := 2) rfl ?_ ?_ ?_
   ·exact (by have hcc := congr (congrArg (fun (y0 : List Int) (y1 : Int) => (.tuple #[.slice aout y0.length cout, .int .i64 y1] : Value)) hr0) hr1; exact hcc)
   ·exact fun w hw => hw.above (i := 2) (j := 0) (by decide) rfl rfl
   ·intro w hw; exact Eq.mp (congrArg (fun y => SlO tInt _ w aout cout y) hr0) ((hw.at (i := 0) rfl).here)

set_option maxHeartbeats 8000000 in
set_option maxRecDepth 100000 in
theorem cppol_ok (n : Int) : Fn0 Tryz.prog 19 [Vi n] (fun _ => True) (.bool (Cmp.okPol n)) := by
 refine fn0 (nt := 9) (F0 := [(0, Vi n)]) Tryz.func19 rfl Tryz.ntmps19 rfl rfl (fun w0 hpre => ?_)
 refine c_seq (c_region ?_)
 refine o_as rfl rfl ?_
 refine o_nil (q_then (c_seq (c_region ?_)))
 refine o_mv rfl rfl ?_
 refine o_p (p_ge rfl rfl) ?_
 refine o_mv rfl rfl ?_
 refine o_and (p := 8) 3 (decide (n ≤ 5)) ?_ ?_ ?_
 ·intro hb1 hk
  simp only [decide_eq_true_eq] at hb1
  refine o_unguard 5 rfl rfl ?_
  refine o_mv rfl rfl ?_
  refine o_unguard 5 rfl rfl ?_
  refine o_p (p_le rfl rfl) ?_
  refine o_pt rfl rfl rfl ?_
  exact o_sub (sr (Sub.skip rfl (Sub.skip rfl (Sub.skip rfl (Sub.skip rfl (Sub.refl _)))))) hk
 ·intro hb1 hk
  refine o_guard_no rfl 5 rfl rfl rfl rfl rfl ?_
  refine o_guard_no rfl 5 rfl rfl rfl rfl rfl ?_
  refine o_pf rfl rfl rfl ?_
  exact o_sub (sr (Sub.skip rfl (Sub.skip rfl (Sub.skip rfl (Sub.skip rfl (Sub.refl _)))))) hk
 refine o_as rfl rfl ?_
 refine o_nil (q_then (c_ret ?_))
 have hr0 : ((decide (1 ≤ n) && decide (n ≤ 5)) : Bool) = (Cmp.okPol n) := by
  rfl
 refine q_end0 (v := .bool (decide (1 ≤ n) && decide (n ≤ 5))) (rt1 rfl (r_tmp rfl)) (i := 0) rfl ?_
 exact (by have hcc := congrArg (fun (y0 : Bool) => (.bool y0 : Value)) hr0; exact hcc)

set_option maxHeartbeats 8000000 in
set_option maxRecDepth 100000 in
theorem cpcurve_ok (l : List Int) (al : Option Addr) (cl : Nat) (n : Int) : FnM Tryz.prog 13 [.slice al l.length cl, Vi n] (fun w => Rd tInt w al cl l) (Option Addr × Nat) (fun p => .tuple #[.slice p.1 (Cmp.curve l n).length p.2, Vi (Cmp.curveErr l n)]) (fun p S w => SlO tInt S w p.1 p.2 (Cmp.curve l n)) := by
 refine fnM (nt := 37) (F0 := [(0, .slice al l.length cl), (1, Vi n)]) Tryz.func13 rfl Tryz.ntmps13 rfl rfl (fun w0 hpre => ?_)
 have hl := hpre
 have hlhl := hl.2.1
 refine c_seq (c_region ?_)
 refine o_as rfl rfl ?_
 refine o_as rfl rfl ?_
 refine o_nil (q_then (c_seq (c_region ?_)))
 refine o_mv rfl rfl ?_
 refine o_call0 (v := Vi (Lru.trace l)) rfl (checkTrace_ok l al cl) hf29 (fun w hw => (rd_base (i := 0) rfl hl) w hw) rfl ?_
 refine o_as rfl rfl ?_
 refine o_nil (q_then (c_seq (c_seq (c_region ?_))))
 refine o_mv rfl rfl ?_
 refine o_p (p_eq rfl rfl) ?_
 refine o_mv rfl rfl ?_
 refine o_and (p := 17) 4 (!(Cmp.okPol n)) ?_ ?_ ?_
 ·intro hb1 hk
  simp only [beq_iff_eq] at hb1
  refine o_unguard 13 rfl rfl ?_
  refine o_mv rfl rfl ?_
  refine o_unguard 13 rfl rfl ?_
  refine o_call0 (v := .bool (Cmp.okPol n)) rfl (cppol_ok n) hf19 (fun _ _ => trivial) rfl ?_
  refine o_unguard 13 rfl rfl ?_
  refine o_p (p_not (b := (Cmp.okPol n)) rfl) ?_
  refine o_pt rfl rfl rfl ?_
  exact o_sub (sr (Sub.skip rfl (Sub.skip rfl (Sub.skip rfl (Sub.skip rfl (Sub.skip rfl (Sub.refl _))))))) hk
 ·intro hb1 hk
  refine o_guard_no rfl 13 rfl rfl rfl rfl rfl ?_
  refine o_guard_no rfl 13 rfl rfl rfl rfl rfl ?_
  refine o_guard_no rfl 13 rfl rfl rfl rfl rfl ?_
  refine o_pf rfl rfl rfl ?_
  exact o_sub (sr (Sub.skip rfl (Sub.skip rfl (Sub.skip rfl (Sub.skip rfl (Sub.skip rfl (Sub.refl _))))))) hk
 refine o_nil (q_then ?_)
 refine c_cond rfl (fun hc2 => ?_) (fun hc2 => ?_)
 ·simp only [Bool.and_eq_true, beq_iff_eq, Bool.not_eq_true'] at hc2
  have hbad := hc2
  have hz := Cmp.ce1 hc2
  have hz2 := Cmp.curve_bad (l := l) (n := n) (by omega)
  refine c_region ?_
  refine o_as rfl rfl ?_
  refine o_nil (q_then (c_seq (c_seq (c_region ?_))))
  refine o_mv rfl rfl ?_
  refine o_p (p_ne rfl rfl) ?_
  refine o_nil (q_then ?_)
  refine c_true rfl ?_
  refine c_seq (c_region ?_)
  refine o_mv rfl rfl ?_
  refine o_as rfl rfl ?_
  refine o_as rfl rfl ?_
  refine o_nil (q_then (c_ret ?_))
  refine q_then_ret ?_
  have hr0 : ([] : List Int) = (Cmp.curve l n) := by
   first | rfl | exact hz | exact hz2.symm | exact hck.symm | (rw [Cmp.curve_ok hck, hI.2.2, show (room - 2).toNat = 39 by omega])
  have hr1 : (7 : Int) = (Cmp.curveErr l n) := by
   first | rfl | exact hz | exact hz2.symm | exact hck.symm | (rw [Cmp.curve_ok hck, hI.2.2, show (room - 2).toNat = 39 by omega])
  refine q_endM (p := (none, 0)) (fun _ => False) (rt2 rfl (r_tmp rfl) (r_tmp rfl)) (i := 0) rfl ?_ ?_ ?_
  ·exact (by have hcc := congr (congrArg (fun (y0 : List Int) (y1 : Int) => (.tuple #[.slice none y0.length 0, .int .i64 y1] : Value)) hr0) hr1; exact hcc)
  ·intro w hw b hb; exact hb.elim
  ·intro w hw; exact Eq.mp (congrArg (fun y => SlO tInt _ w none 0 y) hr0) (SlO.nil tInt w)
 ·simp only [Bool.and_eq_false_iff, beq_eq_false_iff_ne, ne_eq, Bool.not_eq_false'] at hc2
  have hro := hc2
  have hz := Cmp.ce2 hc2
  refine c_skip (q_then (c_seq (c_seq (c_region ?_))))
  refine o_mv rfl rfl ?_
  refine o_p (p_ne rfl rfl) ?_
  refine o_nil (q_then ?_)
  refine c_cond rfl (fun hc3 => ?_) (fun hc3 => ?_)
  ·simp only [bne_iff_ne, ne_eq] at hc3
   have hz2 := Cmp.curve_bad (l := l) (n := n) (by omega)
   refine c_seq (c_region ?_)
   refine o_mv rfl rfl ?_
   refine o_as rfl rfl ?_
   refine o_as rfl rfl ?_
   refine o_nil (q_then (c_ret ?_))
   refine q_then_ret ?_
   have hr0 : ([] : List Int) = (Cmp.curve l n) := by
    first | rfl | exact hz | exact hz2.symm | exact hck.symm | (rw [Cmp.curve_ok hck, hI.2.2, show (room - 2).toNat = 39 by omega])
   have hr1 : ((Lru.trace l) : Int) = (Cmp.curveErr l n) := by
    first | rfl | exact hz | exact hz2.symm | exact hck.symm | (rw [Cmp.curve_ok hck, hI.2.2, show (room - 2).toNat = 39 by omega])
   refine q_endM (p := (none, 0)) (fun _ => False) (rt2 rfl (r_tmp rfl) (r_tmp rfl)) (i := 0) rfl ?_ ?_ ?_
   ·exact (by have hcc := congr (congrArg (fun (y0 : List Int) (y1 : Int) => (.tuple #[.slice none y0.length 0, .int .i64 y1] : Value)) hr0) hr1; exact hcc)
   ·intro w hw b hb; exact hb.elim
   ·intro w hw; exact Eq.mp (congrArg (fun y => SlO tInt _ w none 0 y) hr0) (SlO.nil tInt w)
  ·simp only [bne_eq_false_iff_eq] at hc3
   have hck : Cmp.curveErr l n = 0 := by omega
   have hok := Cmp.ce_ok.1 hck
   have hpn := Cmp.pol_ok hok.2
   have h200 := (Lru.trace_ok.1 hok.1).1
   have hl5 : [30, 32, 34, 36, 38].length = 5 := rfl
   refine c_skip (q_then (c_seq (c_region ?_)))
   refine o_as rfl rfl ?_
   refine o_nil (q_then (c_seq (c_seq (c_region ?_))))
   refine o_as rfl rfl ?_
   refine o_nil (q_then (c_block ?_))
   refine c_ownNil tInt ?_
   refine c_loop (St := List Int × Option Addr × Nat × (Nat → Prop) × Int)
    (fun ⟨out, aout, cout, Sout, room⟩ => [(0, .slice al l.length cl), (1, Vi n), (7, .slice aout out.length cout), (8, Vi room)])
    (fun ⟨out, aout, cout, Sout, room⟩ => [own tInt Sout aout cout out, base w0])
    (fun ⟨out, aout, cout, Sout, room⟩ => 2 ≤ room ∧ room ≤ 41 ∧ out = (List.range (room - 2).toNat).map (fun i : Nat => Cmp.by_ l ((i : Int) + 2) n))
    (fun ⟨out, aout, cout, Sout, room⟩ => (41 - room).toNat)
    ([], none, 0, (fun _ => False), 2) ?_ (sr (sr (sr (sr (Sub.nil _))))) (fun _ hw => hw) ?_
   ·exact ⟨by omega, by omega, rfl⟩
   rintro ⟨out, aout, cout, Sout, room⟩ hI K hK5
   have hol : out.length = (room - 2).toNat := by rw [hI.2.2]; simp
   show SC _ _ Tryz.prog 37 w0 _ _ [(0, .slice al l.length cl), (1, Vi n), (7, .slice aout out.length cout), (8, Vi room)] [own tInt Sout aout cout out, base w0]
   refine c_seq (c_seq (c_region ?_))
   refine o_mv rfl rfl ?_
   refine o_p (p_le rfl rfl) ?_
   refine o_nil (q_then ?_)
   refine c_cond rfl (fun hc6 => ?_) (fun hc6 => ?_)
   ·simp only [decide_eq_true_eq] at hc6
    refine c_skip (q_then (c_seq (c_block (c_region ?_))))
    refine o_mv rfl rfl ?_
    refine o_callM rfl (runs_ok ) hf15 (fun _ _ => trivial) rfl (fun _ _ _ _ ha hA => SlO.agree ha hA) ?_
    rintro ⟨a9, c10⟩ S7
    refine o_know (fun w hw => own_len (i := 0) (T := tFun) hw rfl) (fun hlr11 => ?_)
    refine o_mv rfl rfl ?_
    refine o_p (p_subb rfl rfl (by omega)) ?_
    refine o_p (p_indexAddr (L := ([30, 32, 34, 36, 38])) (T := tFun) (i := (n - 1)) rfl rfl (rd_own (i := 0) rfl) Tryz.underlying35 sz37 (by omega) (by omega)) ?_
    refine o_p (p_loadE1 (i := (n - 1).toNat) (T := tFun) (L := ([30, 32, 34, 36, 38])) (v := .func (.func (([30, 32, 34, 36, 38]).getD ((n - 1).toNat) default)) #[] #[]) rfl (rd_own (i := 0) rfl) (by first | assumption | omega) sh37 (congrArg tFun.enc (getd_at (by first | assumption | omega) default))) ?_
    refine o_mv rfl rfl ?_
    refine o_mv rfl rfl ?_
    refine o_call0V (f := (([30, 32, 34, 36, 38]).getD ((n - 1).toNat) default)) (vs := [.slice al l.length cl, Vi room]) (caps := []) (v := Vi (Cmp.by_ l room n)) rfl rfl (runsAt2_ok l al cl room ⟨hok.1, by omega, by omega⟩ n hpn) (runsAt_has (n - 1).toNat (by omega)) (fun w hw => (rd_base (i := 2) rfl hl) w hw) rfl ?_
    refine o_buildSlice (m := 1) (T := tInt) (L := [(Cmp.by_ l room n)]) (vs := [Vi (Cmp.by_ l room n)]) rfl rfl rfl rfl Tryz.underlying22 sz3 (by decide) ze3 rfl (by decide) rfl (fun S12 a13 => ?_)
    refine o_append (i := 2) (L := out) (M := [(Cmp.by_ l room n)]) (T := tInt) rfl rfl rfl (rd_own (i := 0) rfl) Tryz.underlying22 Tryz.underlying22 (by intro k h; cases h) el3 (by intro z; simp [tInt, one1]) (by decide) (by first | omega | (simp only [List.length_cons, List.length_nil]; omega) | (simp only [List.length_append, List.length_cons, List.length_nil, List.length_take, List.length_drop]; omega)) rfl (fun a15 c16 S17 => ?_)
    refine o_as rfl rfl ?_
    refine o_nil ?_
    refine q_block_normal (q_then ?_)
    refine c_region ?_
    refine o_mv rfl rfl ?_
    refine o_p (p_addb rfl rfl (by omega)) ?_
    refine o_as rfl rfl ?_
    refine o_nil ?_
    refine q_round hK5 ((out ++ [(Cmp.by_ l room n)]), a15, c16, S17, (room + 1)) ?_ ?_ ?_ ?_
    ·clear hK5
     exact ⟨by omega, by omega, Cmp.curve_next hI.2.2 (by omega)⟩
    ·(try dsimp only); omega
    ·exact sr (sr (sr (sr (Sub.nil _))))
    ·exact pk [2, 3]
   ·simp only [decide_eq_false_iff_not, Int.not_le] at hc6
    refine c_exit ?_
    refine q_then_exit (q_then_exit (q_block_exit (q_then ?_)))
    refine c_seq (c_region ?_)
    refine o_mv rfl rfl ?_
    refine o_as rfl rfl ?_
    refine o_as rfl rfl ?_
    refine o_nil (q_then (c_ret ?_))
    have hr0 : (out : List Int) = (Cmp.curve l n) := by
     first | rfl | exact hz | exact hz2.symm | exact hck.symm | (rw [Cmp.curve_ok hck, hI.2.2, show (room - 2).toNat = 39 by omega])
    have hr1 : (0 : Int) = (Cmp.curveErr l n) := by
     first | rfl | exact hz | exact hz2.symm | exact hck.symm | (rw [Cmp.curve_ok hck, hI.2.2, show (room - 2).toNat = 39 by omega])
    refine q_endM (p := (aout, cout)) Sout (rt2 rfl (r_tmp rfl) (r_tmp rfl)) (i := 1) rfl ?_ ?_ ?_
    ·exact (by have hcc := congr (congrArg (fun (y0 : List Int) (y1 : Int) => (.tuple #[.slice aout y0.length cout, .int .i64 y1] : Value)) hr0) hr1; exact hcc)
    ·exact fun w hw => hw.above (i := 1) (j := 0) (by decide) rfl rfl
    ·intro w hw; exact Eq.mp (congrArg (fun y => SlO tInt _ w aout cout y) hr0) ((hw.at (i := 0) rfl).here)

set_option maxHeartbeats 8000000 in
set_option maxRecDepth 100000 in
theorem cproom1_ok (many : Int) (Bq : Nat) (q : List Int) (aq : Option Addr) (cq : Nat) (hy1 : 4 < q.length) : Fn0 Tryz.prog 21 [Vi many, .pointer (some ⟨Bq, 0, none⟩)] (fun w => Rd tInt w aq cq q ∧ (box Bq [.slice aq q.length cq] 22).A w) (.bool (decide (q.getD 4 default ≤ many))) := by
 refine fn0 (nt := 9) (F0 := [(0, Vi many), (1, .pointer (some ⟨Bq, 0, none⟩))]) Tryz.func21 rfl Tryz.ntmps21 rfl rfl (fun w0 hpre => ?_)
 obtain ⟨hq, hBq⟩ := hpre
 have hlhq := hq.2.1
 refine c_seq (c_region ?_)
 refine o_as rfl rfl ?_
 refine o_nil (q_then (c_seq (c_region ?_)))
 refine o_mv rfl rfl ?_
 refine o_p (p_loadR (v := .slice aq q.length cq) rfl (rbox_base (i := 0) rfl hBq) sh22 rfl) ?_
 refine o_p (p_indexAddr (L := q) (T := tInt) (i := 4) rfl rfl (rd_base (i := 0) rfl hq) Tryz.underlying22 sz3 (by omega) (by omega)) ?_
 refine o_p (p_loadE1 (i := 4) (T := tInt) (L := q) (v := Vi (q.getD 4 default)) rfl (rd_base (i := 0) rfl hq) (by first | assumption | omega) sh3 (congrArg tInt.enc (getd_at (by first | assumption | omega) default))) ?_
 refine o_p (p_ge rfl rfl) ?_
 refine o_as rfl rfl ?_
 refine o_nil (q_then (c_ret ?_))
 have hr0 : (decide ((q.getD 4 default) ≤ many) : Bool) = (decide (q.getD 4 default ≤ many)) := by
  rfl
 refine q_end0 (v := .bool (decide ((q.getD 4 default) ≤ many))) (rt1 rfl (r_tmp rfl)) (i := 0) rfl ?_
 exact (by have hcc := congrArg (fun (y0 : Bool) => (.bool y0 : Value)) hr0; exact hcc)

set_option maxHeartbeats 8000000 in
set_option maxRecDepth 100000 in
theorem cproom_ok (l : List Int) (al : Option Addr) (cl : Nat) (room : Int) (n : Int) : Fn0 Tryz.prog 7 [.slice al l.length cl, Vi room, Vi n] (fun w => Rd tInt w al cl l) (.tuple #[Vi (Cmp.room l room n), Vi (Cmp.roomErr l room n)]) := by
 refine fn0 (nt := 42) (F0 := [(0, .slice al l.length cl), (1, Vi room), (2, Vi n)]) Tryz.func7 rfl Tryz.ntmps7 rfl rfl (fun w0 hpre => ?_)
 have hl := hpre
 have hlhl := hl.2.1
 refine c_seq (c_region ?_)
 refine o_as rfl rfl ?_
 refine o_as rfl rfl ?_
 refine o_nil (q_then (c_seq (c_region ?_)))
 refine o_mv rfl rfl ?_
 refine o_mv rfl rfl ?_
 refine o_callM rfl (cphits_ok l al cl room) hf5 (fun w hw => (rd_base (i := 0) rfl hl) w hw) rfl (fun _ _ _ _ ha hA => SlO.agree ha hA) ?_
 rintro ⟨a3, c4⟩ S1
 refine o_know (fun w hw => own_len (i := 0) (T := tInt) hw rfl) (fun hlr5 => ?_)
 refine o_mv rfl rfl ?_
 refine o_ex rfl rfl rfl ?_
 refine o_ex rfl rfl rfl ?_
 refine o_alloc ze22 rfl (fun B6 => ?_)
 refine o_store (i := 0) (v := .slice a3 (Cmp.hits l room).length c4) (cs' := [.slice a3 (Cmp.hits l room).length c4]) rfl rfl rfl sz22 rfl rfl rfl ?_
 refine o_as rfl rfl ?_
 refine o_nil (q_then (c_seq (c_seq (c_region ?_))))
 refine o_mv rfl rfl ?_
 refine o_p (p_eq rfl rfl) ?_
 refine o_mv rfl rfl ?_
 refine o_and (p := 25) 4 (!(Cmp.okPol n)) ?_ ?_ ?_
 ·intro hb7 hk
  simp only [beq_iff_eq] at hb7
  refine o_unguard 21 rfl rfl ?_
  refine o_mv rfl rfl ?_
  refine o_unguard 21 rfl rfl ?_
  refine o_call0 (v := .bool (Cmp.okPol n)) rfl (cppol_ok n) hf19 (fun _ _ => trivial) rfl ?_
  refine o_unguard 21 rfl rfl ?_
  refine o_p (p_not (b := (Cmp.okPol n)) rfl) ?_
  refine o_pt rfl rfl rfl ?_
  exact o_sub (sr (Sub.skip rfl (Sub.skip rfl (Sub.skip rfl (Sub.skip rfl (Sub.skip rfl (Sub.refl _))))))) hk
 ·intro hb7 hk
  refine o_guard_no rfl 21 rfl rfl rfl rfl rfl ?_
  refine o_guard_no rfl 21 rfl rfl rfl rfl rfl ?_
  refine o_guard_no rfl 21 rfl rfl rfl rfl rfl ?_
  refine o_pf rfl rfl rfl ?_
  exact o_sub (sr (Sub.skip rfl (Sub.skip rfl (Sub.skip rfl (Sub.skip rfl (Sub.skip rfl (Sub.refl _))))))) hk
 refine o_nil (q_then ?_)
 refine c_cond rfl (fun hc8 => ?_) (fun hc8 => ?_)
 ·simp only [Bool.and_eq_true, beq_iff_eq, Bool.not_eq_true'] at hc8
  have hz := Cmp.re1 hc8
  refine c_region ?_
  refine o_as rfl rfl ?_
  refine o_nil (q_then (c_seq (c_seq (c_region ?_))))
  refine o_mv rfl rfl ?_
  refine o_p (p_ne rfl rfl) ?_
  refine o_nil (q_then ?_)
  refine c_true rfl ?_
  refine c_seq (c_region ?_)
  refine o_mv rfl rfl ?_
  refine o_as rfl rfl ?_
  refine o_as rfl rfl ?_
  refine o_nil (q_then (c_ret ?_))
  refine q_then_ret ?_
  rcases Cmp.rm_cases l room n with ⟨c1, c2, c3⟩ | ⟨c1, c4, c2, c3⟩ | ⟨c1, c4, c2, c3⟩ <;> try (exfalso; first | omega | (unfold Cmp.roomAt at c4; omega))
  have hr0 : (0 : Int) = (Cmp.room l room n) := by
   first | exact c3.symm | exact c2.symm | (rw [c2]; done) | (rw [c2]; omega) | (rw [c3]; rfl)
  have hr1 : (7 : Int) = (Cmp.roomErr l room n) := by
   first | exact c3.symm | exact c2.symm | (rw [c2]; done) | (rw [c2]; omega) | (rw [c3]; rfl)
  refine q_end0 (v := .tuple #[Vi 0, Vi 7]) (rt2 rfl (r_tmp rfl) (r_tmp rfl)) (i := 2) rfl ?_
  exact (by have hcc := congr (congrArg (fun (y0 : Int) (y1 : Int) => (.tuple #[.int .i64 y0, .int .i64 y1] : Value)) hr0) hr1; exact hcc)
 ·simp only [Bool.and_eq_false_iff, beq_eq_false_iff_ne, ne_eq, Bool.not_eq_false'] at hc8
  have hro := hc8
  have hz := Cmp.re2 hc8
  refine c_skip (q_then (c_seq (c_seq (c_region ?_))))
  refine o_mv rfl rfl ?_
  refine o_p (p_ne rfl rfl) ?_
  refine o_nil (q_then ?_)
  refine c_cond rfl (fun hc9 => ?_) (fun hc9 => ?_)
  ·simp only [bne_iff_ne, ne_eq] at hc9
   refine c_seq (c_region ?_)
   refine o_mv rfl rfl ?_
   refine o_as rfl rfl ?_
   refine o_as rfl rfl ?_
   refine o_nil (q_then (c_ret ?_))
   refine q_then_ret ?_
   rcases Cmp.rm_cases l room n with ⟨c1, c2, c3⟩ | ⟨c1, c4, c2, c3⟩ | ⟨c1, c4, c2, c3⟩ <;> try (exfalso; first | omega | (unfold Cmp.roomAt at c4; omega))
   have hr0 : (0 : Int) = (Cmp.room l room n) := by
    first | exact c3.symm | exact c2.symm | (rw [c2]; done) | (rw [c2]; omega) | (rw [c3]; rfl)
   have hr1 : ((Cmp.check l room) : Int) = (Cmp.roomErr l room n) := by
    first | exact c3.symm | exact c2.symm | (rw [c2]; done) | (rw [c2]; omega) | (rw [c3]; rfl)
   refine q_end0 (v := .tuple #[Vi 0, Vi (Cmp.check l room)]) (rt2 rfl (r_tmp rfl) (r_tmp rfl)) (i := 2) rfl ?_
   exact (by have hcc := congr (congrArg (fun (y0 : Int) (y1 : Int) => (.tuple #[.int .i64 y0, .int .i64 y1] : Value)) hr0) hr1; exact hcc)
  ·simp only [bne_eq_false_iff_eq] at hc9
   have hck := hc9
   have hl5 := Cmp.hits_len hc9
   have hok := Cmp.chk_ok.1 hc9
   have hra : -1 ≤ Cmp.roomAt l room n ∧ Cmp.roomAt l room n < 39 := Cmp.roomAt_bd l room n
   refine c_skip (q_then (c_seq (c_region ?_)))
   refine o_mv rfl rfl ?_
   refine o_mv rfl rfl ?_
   refine o_callM rfl (cpcurve_ok l al cl n) hf13 (fun w hw => (rd_base (i := 2) rfl hl) w hw) rfl (fun _ _ _ _ ha hA => SlO.agree ha hA) ?_
   rintro ⟨a12, c13⟩ S10
   refine o_know (fun w hw => own_len (i := 0) (T := tInt) hw rfl) (fun hlr14 => ?_)
   refine o_mv rfl rfl ?_
   refine o_ex rfl rfl rfl ?_
   refine o_ex rfl rfl rfl ?_
   refine o_as rfl rfl ?_
   refine o_as rfl rfl ?_
   refine o_nil (q_then (c_seq (c_region ?_)))
   refine o_mv rfl rfl ?_
   refine o_p (p_makeFunc (vs := [.pointer (some ⟨B6, 0, none⟩)]) rfl) ?_
   refine o_call0 (v := Vi (idxF (fun x : Int => (decide ((Cmp.hits l room).getD 4 default ≤ x))) (Cmp.curve l n))) rfl (indexFunc_Int_ok (Cmp.curve l n) a12 c13 21 [.pointer (some ⟨B6, 0, none⟩)] (fun x => (decide ((Cmp.hits l room).getD 4 default ≤ x))) (fun w => Rd tInt w a3 c4 (Cmp.hits l room) ∧ (box B6 [.slice a3 (Cmp.hits l room).length c4] 22).A w) (fun _ _ hb h => ⟨Rd.below h.1 hb.block hb.size, box_below hb h.2⟩) (fun x => cproom1_ok x B6 (Cmp.hits l room) a3 c4 (by omega)) hf21) hf20 (fun w hw => ⟨(rd_own (i := 0) rfl) w hw, ⟨(rd_own (i := 2) rfl) w hw, (hw.at (i := 1) rfl).here⟩⟩) rfl ?_
   refine o_as rfl rfl ?_
   refine o_nil (q_then (c_seq (c_seq (c_region ?_))))
   refine o_mv rfl rfl ?_
   refine o_p (p_lt rfl rfl) ?_
   refine o_nil (q_then ?_)
   refine c_cond rfl (fun hc15 => ?_) (fun hc15 => ?_)
   ·simp only [decide_eq_true_eq] at hc15
    refine c_seq (c_region ?_)
    refine o_as rfl rfl ?_
    refine o_as rfl rfl ?_
    refine o_nil (q_then (c_ret ?_))
    refine q_then_ret ?_
    rcases Cmp.rm_cases l room n with ⟨c1, c2, c3⟩ | ⟨c1, c4, c2, c3⟩ | ⟨c1, c4, c2, c3⟩ <;> try (exfalso; first | omega | (unfold Cmp.roomAt at c4; omega))
    have hr0 : (0 : Int) = (Cmp.room l room n) := by
     first | exact c3.symm | exact c2.symm | (rw [c2]; done) | (rw [c2]; omega) | (rw [c3]; rfl)
    have hr1 : (5 : Int) = (Cmp.roomErr l room n) := by
     first | exact c3.symm | exact c2.symm | (rw [c2]; done) | (rw [c2]; omega) | (rw [c3]; rfl)
    refine q_end0 (v := .tuple #[Vi 0, Vi 5]) (rt2 rfl (r_tmp rfl) (r_tmp rfl)) (i := 3) rfl ?_
    exact (by have hcc := congr (congrArg (fun (y0 : Int) (y1 : Int) => (.tuple #[.int .i64 y0, .int .i64 y1] : Value)) hr0) hr1; exact hcc)
   ·simp only [decide_eq_false_iff_not, Int.not_lt] at hc15
    refine c_skip (q_then (c_seq (c_region ?_)))
    refine o_mv rfl rfl ?_
    refine o_p (p_addb rfl rfl (by have h9 : -1 ≤ Cmp.roomAt l room n ∧ Cmp.roomAt l room n < 39 := Cmp.roomAt_bd l room n; unfold Cmp.roomAt at h9; omega)) ?_
    refine o_as rfl rfl ?_
    refine o_as rfl rfl ?_
    refine o_nil (q_then (c_ret ?_))
    rcases Cmp.rm_cases l room n with ⟨c1, c2, c3⟩ | ⟨c1, c4, c2, c3⟩ | ⟨c1, c4, c2, c3⟩ <;> try (exfalso; first | omega | (unfold Cmp.roomAt at c4; omega))
    have hr0 : (((idxF (fun x : Int => (decide ((Cmp.hits l room).getD 4 default ≤ x))) (Cmp.curve l n)) + 2) : Int) = (Cmp.room l room n) := by
     first | exact c3.symm | exact c2.symm | (rw [c2]; done) | (rw [c2]; omega) | (rw [c3]; rfl)
    have hr1 : (0 : Int) = (Cmp.roomErr l room n) := by
     first | exact c3.symm | exact c2.symm | (rw [c2]; done) | (rw [c2]; omega) | (rw [c3]; rfl)
    refine q_end0 (v := .tuple #[Vi ((idxF (fun x : Int => (decide ((Cmp.hits l room).getD 4 default ≤ x))) (Cmp.curve l n)) + 2), Vi 0]) (rt2 rfl (r_tmp rfl) (r_tmp rfl)) (i := 3) rfl ?_
    exact (by have hcc := congr (congrArg (fun (y0 : Int) (y1 : Int) => (.tuple #[.int .i64 y0, .int .i64 y1] : Value)) hr0) hr1; exact hcc)
end Go.Proofs.YtfncgfcehkalnaaGreat

/- The walks, printed by a program from the translation and a specification. -/
namespace Go.Proofs.YtfncgfcehkalnaaGreat
open Go.Sx Go.RowKit
set_option maxHeartbeats 8000000 in
set_option maxRecDepth 100000 in
theorem isNaN_ok (x : Int) : Fn0 Tryz.prog 41 [Vi x] (fun _ => True) (.bool false) := by
 refine fn0 (nt := 6) (F0 := [(0, Vi x)]) Tryz.func41 rfl Tryz.ntmps41 rfl rfl (fun w0 hpre => ?_)
 refine c_seq (c_region ?_)
 refine o_as rfl rfl ?_
 refine o_nil (q_then (c_seq (c_region ?_)))
 refine o_mv rfl rfl ?_
 refine o_mv rfl rfl ?_
 refine o_p (p_ne rfl rfl) ?_
 refine o_as rfl rfl ?_
 refine o_nil (q_then (c_ret ?_))
 have hr0 : ((x != x) : Bool) = false := by
  simp
 refine q_end0 (v := .bool (x != x)) (rt1 rfl (r_tmp rfl)) (i := 0) rfl ?_
 exact (by have hcc := congrArg (fun (y0 : Bool) => (.bool y0 : Value)) hr0; exact hcc)

set_option maxHeartbeats 8000000 in
set_option maxRecDepth 100000 in
theorem compare_ok (x : Int) (y : Int) : Fn0 Tryz.prog 18 [Vi x, Vi y] (fun _ => True) (Vi (cmpI x y)) := by
 refine fn0 (nt := 20) (F0 := [(0, Vi x), (1, Vi y)]) Tryz.func18 rfl Tryz.ntmps18 rfl rfl (fun w0 hpre => ?_)
 refine c_seq (c_region ?_)
 refine o_as rfl rfl ?_
 refine o_nil (q_then (c_seq (c_region ?_)))
 refine o_mv rfl rfl ?_
 refine o_call0 (v := .bool false) rfl (isNaN_ok x) hf41 (fun _ _ => trivial) rfl ?_
 refine o_as rfl rfl ?_
 refine o_nil (q_then (c_seq (c_region ?_)))
 refine o_mv rfl rfl ?_
 refine o_call0 (v := .bool false) rfl (isNaN_ok y) hf41 (fun _ _ => trivial) rfl ?_
 refine o_as rfl rfl ?_
 refine o_nil (q_then (c_seq (c_seq (c_region ?_))))
 refine o_mv rfl rfl ?_
 refine o_nil (q_then ?_)
 refine c_false rfl ?_
 refine c_skip (q_then (c_seq (c_seq (c_region ?_))))
 refine o_mv rfl rfl ?_
 refine o_nil (q_then ?_)
 refine c_false rfl ?_
 refine c_skip (q_then (c_seq (c_seq (c_region ?_))))
 refine o_mv rfl rfl ?_
 refine o_mv rfl rfl ?_
 refine o_p (p_lt rfl rfl) ?_
 refine o_nil (q_then ?_)
 refine c_cond rfl (fun hc1 => ?_) (fun hc1 => ?_)
 ·simp only [decide_eq_true_eq] at hc1
  refine c_seq (c_region ?_)
  refine o_as rfl rfl ?_
  refine o_nil (q_then (c_ret ?_))
  refine q_then_ret ?_
  have hr0 : ((-1) : Int) = (cmpI x y) := by
   first | exact cmp_lt (by assumption) | exact cmp_gt (by omega) (by assumption) | exact cmp_eq (by omega) (by omega)
  refine q_end0 (v := Vi (-1)) (rt1 rfl (r_tmp rfl)) (i := 0) rfl ?_
  exact (by have hcc := congrArg (fun (y0 : Int) => (.int .i64 y0 : Value)) hr0; exact hcc)
 ·simp only [decide_eq_false_iff_not, Int.not_lt] at hc1
  refine c_skip (q_then (c_seq (c_seq (c_region ?_))))
  refine o_mv rfl rfl ?_
  refine o_mv rfl rfl ?_
  refine o_p (p_gt rfl rfl) ?_
  refine o_nil (q_then ?_)
  refine c_cond rfl (fun hc2 => ?_) (fun hc2 => ?_)
  ·simp only [decide_eq_true_eq] at hc2
   refine c_seq (c_region ?_)
   refine o_as rfl rfl ?_
   refine o_nil (q_then (c_ret ?_))
   refine q_then_ret ?_
   have hr0 : (1 : Int) = (cmpI x y) := by
    first | exact cmp_lt (by assumption) | exact cmp_gt (by omega) (by assumption) | exact cmp_eq (by omega) (by omega)
   refine q_end0 (v := Vi 1) (rt1 rfl (r_tmp rfl)) (i := 0) rfl ?_
   exact (by have hcc := congrArg (fun (y0 : Int) => (.int .i64 y0 : Value)) hr0; exact hcc)
  ·simp only [decide_eq_false_iff_not, Int.not_lt] at hc2
   refine c_skip (q_then (c_seq (c_region ?_)))
   refine o_as rfl rfl ?_
   refine o_nil (q_then (c_ret ?_))
   have hr0 : (0 : Int) = (cmpI x y) := by
    first | exact cmp_lt (by assumption) | exact cmp_gt (by omega) (by assumption) | exact cmp_eq (by omega) (by omega)
   refine q_end0 (v := Vi 0) (rt1 rfl (r_tmp rfl)) (i := 0) rfl ?_
   exact (by have hcc := congrArg (fun (y0 : Int) => (.int .i64 y0 : Value)) hr0; exact hcc)

set_option maxHeartbeats 8000000 in
set_option maxRecDepth 100000 in
theorem ranking1_ok (a : Int) (b : Int) (Bq : Nat) (q : List Int) (aq : Option Addr) (cq : Nat) (hy1 : (1 ≤ a ∧ a ≤ (q.length : Int)) ∧ (1 ≤ b ∧ b ≤ (q.length : Int))) (hy2 : q.length ≤ 5) : Fn0 Tryz.prog 17 [Vi a, Vi b, .pointer (some ⟨Bq, 0, none⟩)] (fun w => Rd tInt w aq cq q ∧ (box Bq [.slice aq q.length cq] 22).A w) (Vi (Cmp.cmp q a b)) := by
 refine fn0 (nt := 17) (F0 := [(0, Vi a), (1, Vi b), (2, .pointer (some ⟨Bq, 0, none⟩))]) Tryz.func17 rfl Tryz.ntmps17 rfl rfl (fun w0 hpre => ?_)
 obtain ⟨hq, hBq⟩ := hpre
 have hlhq := hq.2.1
 refine c_seq (c_region ?_)
 refine o_as rfl rfl ?_
 refine o_nil (q_then (c_seq ?_))
 refine c_draw hmix (by kernel_rfl) ?_
 refine w_p (p_loadR (v := .slice aq q.length cq) rfl (rbox_base (i := 0) rfl hBq) sh22 rfl) ?_
 refine w_mv rfl rfl ?_
 refine w_p (p_subb rfl rfl (by omega)) ?_
 refine w_p (p_indexAddr (L := q) (T := tInt) (i := (b - 1)) rfl rfl (rd_base (i := 0) rfl hq) Tryz.underlying22 sz3 (by omega) (by omega)) ?_
 refine w_p (p_loadE1 (i := (b - 1).toNat) (T := tInt) (L := q) (v := Vi (q.getD ((b - 1).toNat) default)) rfl (rd_base (i := 0) rfl hq) (by first | assumption | omega) sh3 (congrArg tInt.enc (getd_at (by first | assumption | omega) default))) ?_
 refine w_p (p_loadR (v := .slice aq q.length cq) rfl (rbox_base (i := 0) rfl hBq) sh22 rfl) ?_
 refine w_mv rfl rfl ?_
 refine w_p (p_subb rfl rfl (by omega)) ?_
 refine w_p (p_indexAddr (L := q) (T := tInt) (i := (a - 1)) rfl rfl (rd_base (i := 0) rfl hq) Tryz.underlying22 sz3 (by omega) (by omega)) ?_
 refine w_p (p_loadE1 (i := (a - 1).toNat) (T := tInt) (L := q) (v := Vi (q.getD ((a - 1).toNat) default)) rfl (rd_base (i := 0) rfl hq) (by first | assumption | omega) sh3 (congrArg tInt.enc (getd_at (by first | assumption | omega) default))) ?_
 refine w_call0 (v := Vi (cmpI (q.getD ((b - 1).toNat) default) (q.getD ((a - 1).toNat) default))) rfl (compare_ok (q.getD ((b - 1).toNat) default) (q.getD ((a - 1).toNat) default)) hf18 (fun _ _ => trivial) rfl ?_
 refine w_p (p_assign rfl) ?_
 refine w_nil (q_then (c_ret ?_))
 have hr0 : ((cmpI (q.getD ((b - 1).toNat) default) (q.getD ((a - 1).toNat) default)) : Int) = (Cmp.cmp q a b) := by
  rfl
 refine q_end0 (v := Vi (cmpI (q.getD ((b - 1).toNat) default) (q.getD ((a - 1).toNat) default))) (rt1 rfl (r_tmp rfl)) (i := 0) rfl ?_
 exact (by have hcc := congrArg (fun (y0 : Int) => (.int .i64 y0 : Value)) hr0; exact hcc)

set_option maxHeartbeats 8000000 in
set_option maxRecDepth 100000 in
theorem insSort_ok (l : List Int) (al : Option Addr) (cl : Nat) (Sl : Nat → Prop) (a : Int) (b : Int) (Bq : Nat) (q : List Int) (aq : Option Addr) (cq : Nat) (hy1 : (a = 0 ∨ a = (l.length : Int)) ∧ b = (l.length : Int) ∧ l.length ≤ 20) (hy2 : (∀ x ∈ l, 1 ≤ x ∧ x ≤ (q.length : Int)) ∧ q.length ≤ 5) : FnX Tryz.prog 66 [.slice al l.length cl, Vi a, Vi b, .func (.func 17) #[] #[.pointer (some ⟨Bq, 0, none⟩)]] [own tInt Sl al cl l] (fun w => SlR tInt (outer w [own tInt Sl al cl l]).S w aq cq q ∧ ((box Bq [.slice aq q.length cq] 22).A w ∧ (outer w [own tInt Sl al cl l]).S Bq)) (Unit) (fun p => .tuple #[]) (fun p => [own tInt Sl al cl (if a = 0 then St.isort (Cmp.cmp q) l else l)]) := by
 refine fnX (nt := 53) (F0 := [(0, .slice al l.length cl), (1, Vi a), (2, Vi b), (3, .func (.func 17) #[] #[.pointer (some ⟨Bq, 0, none⟩)])]) Tryz.func66 rfl Tryz.ntmps66 rfl rfl (fun w0 hpre => ?_)
 obtain ⟨hq, hBq⟩ := hpre
 have hlhq := hq.2.1
 refine c_know (fun w hw => own_len (i := 1) (T := tInt) hw rfl) (fun hlown_l => ?_)
 obtain ⟨hcown_l, hlown_l⟩ := hlown_l
 refine c_seq (c_region ?_)
 refine o_mv rfl rfl ?_
 refine o_p (p_addb rfl rfl (by omega)) ?_
 refine o_as rfl rfl ?_
 refine o_nil (q_then (c_block ?_))
 refine c_loop (St := Int × List Int)
  (fun ⟨i, ls⟩ => [(0, .slice al ls.length cl), (1, Vi a), (2, Vi b), (3, .func (.func 17) #[] #[.pointer (some ⟨Bq, 0, none⟩)]), (8, Vi i)])
  (fun ⟨i, ls⟩ => [outer w0 [own tInt Sl al cl l], own tInt Sl al cl ls])
  (fun ⟨i, ls⟩ => St.OI (Cmp.cmp q) l a ls i)
  (fun ⟨i, ls⟩ => (b - i).toNat)
  ((a + 1), l) ?_ (sr (sr (sr (sr (sr (Sub.nil _)))))) (fun _ hw => hw) ?_
 ·exact St.OI.start (by omega)
 rintro ⟨i, ls⟩ hI K hK1
 have hO := hI
 have hOl := hI.len
 have hOlo := hI.lo
 show SC _ _ Tryz.prog 53 w0 _ _ [(0, .slice al ls.length cl), (1, Vi a), (2, Vi b), (3, .func (.func 17) #[] #[.pointer (some ⟨Bq, 0, none⟩)]), (8, Vi i)] [outer w0 [own tInt Sl al cl l], own tInt Sl al cl ls]
 refine c_seq (c_seq (c_region ?_))
 refine o_mv rfl rfl ?_
 refine o_mv rfl rfl ?_
 refine o_p (p_lt rfl rfl) ?_
 refine o_nil (q_then ?_)
 refine c_cond rfl (fun hc2 => ?_) (fun hc2 => ?_)
 ·simp only [decide_eq_true_eq] at hc2
  refine c_skip (q_then (c_seq (c_block (c_seq (c_region ?_)))))
  refine o_mv rfl rfl ?_
  refine o_as rfl rfl ?_
  refine o_nil (q_then (c_block ?_))
  refine c_loop (St := Int × List Int)
   (fun ⟨j, lt⟩ => [(0, .slice al lt.length cl), (1, Vi a), (2, Vi b), (3, .func (.func 17) #[] #[.pointer (some ⟨Bq, 0, none⟩)]), (8, Vi i), (9, Vi j)])
   (fun ⟨j, lt⟩ => [outer w0 [own tInt Sl al cl l], own tInt Sl al cl lt])
   (fun ⟨j, lt⟩ => St.II (Cmp.cmp q) l a lt i j)
   (fun ⟨j, lt⟩ => j.toNat)
   (i, ls) ?_ (sr (sr (sr (sr (sr (sr (Sub.nil _))))))) (fun _ hw => hw) ?_
  ·exact St.II.start hO (by omega) (by omega)
  rintro ⟨j, lt⟩ hI K hK3
  have hIl := hI.len
  have hI0 := hI.a0
  have hI1 := hI.jlo
  have hI2 := hI.jhi
  have hI3 := hI.ilt
  show SC _ _ Tryz.prog 53 w0 _ _ [(0, .slice al lt.length cl), (1, Vi a), (2, Vi b), (3, .func (.func 17) #[] #[.pointer (some ⟨Bq, 0, none⟩)]), (8, Vi i), (9, Vi j)] [outer w0 [own tInt Sl al cl l], own tInt Sl al cl lt]
  refine c_seq (c_seq ?_)
  refine c_draw hmix (by kernel_rfl) ?_
  refine w_mv rfl rfl ?_
  refine w_mv rfl rfl ?_
  refine w_p (p_gt rfl rfl) ?_
  refine w_mv rfl rfl ?_
  refine w_and (p := 34) 13 (decide ((Cmp.cmp q (lt.getD j.toNat default) (lt.getD ((j - 1).toNat) default)) < 0)) ?_ ?_ ?_
  ·intro hb4 hk
   simp only [decide_eq_true_eq] at hb4
   refine w_unguard 21 rfl rfl ?_
   refine w_mv rfl rfl ?_
   refine w_unguard 21 rfl rfl ?_
   refine w_mv rfl rfl ?_
   refine w_unguard 21 rfl rfl ?_
   refine w_mv rfl rfl ?_
   refine w_unguard 21 rfl rfl ?_
   refine w_p (p_indexAddr (L := lt) (T := tInt) (i := j) rfl rfl (rd_own (i := 1) rfl) Tryz.underlying22 sz3 (by omega) (by omega)) ?_
   refine w_unguard 21 rfl rfl ?_
   refine w_p (p_loadE1 (i := j.toNat) (T := tInt) (L := lt) (v := Vi (lt.getD j.toNat default)) rfl (rd_own (i := 1) rfl) (by first | assumption | omega) sh3 (congrArg tInt.enc (getd_at (by first | assumption | omega) default))) ?_
   refine w_unguard 21 rfl rfl ?_
   refine w_mv rfl rfl ?_
   refine w_unguard 21 rfl rfl ?_
   refine w_mv rfl rfl ?_
   refine w_unguard 21 rfl rfl ?_
   refine w_p (p_subb rfl rfl (by omega)) ?_
   refine w_unguard 21 rfl rfl ?_
   refine w_p (p_indexAddr (L := lt) (T := tInt) (i := (j - 1)) rfl rfl (rd_own (i := 1) rfl) Tryz.underlying22 sz3 (by omega) (by omega)) ?_
   refine w_unguard 21 rfl rfl ?_
   refine w_p (p_loadE1 (i := (j - 1).toNat) (T := tInt) (L := lt) (v := Vi (lt.getD ((j - 1).toNat) default)) rfl (rd_own (i := 1) rfl) (by first | assumption | omega) sh3 (congrArg tInt.enc (getd_at (by first | assumption | omega) default))) ?_
   refine w_unguard 21 rfl rfl ?_
   refine w_call0V (vs := [Vi (lt.getD j.toNat default), Vi (lt.getD ((j - 1).toNat) default)]) (caps := [.pointer (some ⟨Bq, 0, none⟩)]) (v := Vi (Cmp.cmp q (lt.getD j.toNat default) (lt.getD ((j - 1).toNat) default))) rfl rfl (ranking1_ok (lt.getD j.toNat default) (lt.getD ((j - 1).toNat) default) Bq q aq cq (by first | assumption | exact hI.both (fun x hx => hy2.1 x hx) (by omega)) (by first | assumption | exact hy2.2)) hf17 (fun w hw => ⟨(rd_outer (i := 0) rfl hq) w hw, rbox_outer (i := 0) rfl hBq w hw⟩) rfl ?_
   refine w_unguard 21 rfl rfl ?_
   refine w_p (p_lt rfl rfl) ?_
   refine w_pt rfl rfl rfl ?_
   exact w_sub (sr (Sub.skip rfl (Sub.skip rfl (Sub.skip rfl (Sub.skip rfl (Sub.skip rfl (Sub.skip rfl (Sub.skip rfl (Sub.skip rfl (Sub.skip rfl (Sub.skip rfl (Sub.skip rfl (Sub.skip rfl (Sub.skip rfl (Sub.skip rfl (Sub.refl _)))))))))))))))) hk
  ·intro hb4 hk
   refine w_guard_no rfl 21 rfl rfl rfl rfl rfl ?_
   refine w_guard_no rfl 21 rfl rfl rfl rfl rfl ?_
   refine w_guard_no rfl 21 rfl rfl rfl rfl rfl ?_
   refine w_guard_no rfl 21 rfl rfl rfl rfl rfl ?_
   refine w_guard_no rfl 21 rfl rfl rfl rfl rfl ?_
   refine w_guard_no rfl 21 rfl rfl rfl rfl rfl ?_
   refine w_guard_no rfl 21 rfl rfl rfl rfl rfl ?_
   refine w_guard_no rfl 21 rfl rfl rfl rfl rfl ?_
   refine w_guard_no rfl 21 rfl rfl rfl rfl rfl ?_
   refine w_guard_no rfl 21 rfl rfl rfl rfl rfl ?_
   refine w_guard_no rfl 21 rfl rfl rfl rfl rfl ?_
   refine w_guard_no rfl 21 rfl rfl rfl rfl rfl ?_
   refine w_pf rfl rfl rfl ?_
   exact w_sub (sr (Sub.skip rfl (Sub.skip rfl (Sub.skip rfl (Sub.skip rfl (Sub.skip rfl (Sub.skip rfl (Sub.skip rfl (Sub.skip rfl (Sub.skip rfl (Sub.skip rfl (Sub.skip rfl (Sub.skip rfl (Sub.skip rfl (Sub.skip rfl (Sub.refl _)))))))))))))))) hk
  refine w_nil (q_then ?_)
  refine c_cond rfl (fun hc5 => ?_) (fun hc5 => ?_)
  ·simp only [Bool.and_eq_true, decide_eq_true_eq] at hc5
   have hgo := hc5
   refine c_skip (q_then (c_seq (c_block ?_)))
   refine c_cut (G := Unit) (fun _ => [(0, .slice al lt.length cl), (1, Vi a), (2, Vi b), (3, .func (.func 17) #[] #[.pointer (some ⟨Bq, 0, none⟩)]), (8, Vi i), (9, Vi j)]) (fun _ => [outer w0 [own tInt Sl al cl l], own tInt Sl al cl ((lt.set j.toNat (lt.getD ((j - 1).toNat) default)).set ((j - 1).toNat) (lt.getD j.toNat default))]) (fun K hK7 => ?_) ?_
   ·refine c_held hmix [outer w0 [own tInt Sl al cl l]] rfl rfl ?_
    refine h_tk (i := 0) (ls := #[T1,F0,F0,F0,F0,F0,F0,F0,F0,F0,F0,F0,F0,F0,F0,F0,F0,F0]) rfl (p_move rfl) (dp (lj (lz (ln)))) ?_
    refine h_tk (i := 1) (ls := #[T1,T1,F0,F0,F0,F0,F0,F0,F0,F0,F0,F0,F0,F0,F0,F0,F0,F0]) rfl (p_move rfl) (dp (lj (lz (ln)))) ?_
    refine h_tk (i := 2) (ls := #[T1,T1,T1,F0,F0,F0,F0,F0,F0,F0,F0,F0,F0,F0,F0,F0,F0,F0]) rfl (p_move rfl) (dp (lj (lz (ln)))) ?_
    refine h_tk (i := 3) (ls := #[T1,T1,T1,T1,F0,F0,F0,F0,F0,F0,F0,F0,F0,F0,F0,F0,F0,F0]) rfl (p_move rfl) (dp (lj (lz (ln)))) ?_
    refine h_tk (i := 4) (ls := #[T1,T1,T1,T1,T1,F0,F0,F0,F0,F0,F0,F0,F0,F0,F0,F0,F0,F0]) rfl (p_subb rfl rfl (by omega)) (dp (lj (lz (ln)))) ?_
    refine h_tk (i := 5) (ls := #[T1,T1,T1,T1,T1,T1,F0,F0,F0,F0,F0,F0,F0,F0,F0,F0,F0,F0]) rfl (p_move rfl) (dp (lj (lz (ln)))) ?_
    refine h_tk (i := 6) (ls := #[T1,T1,T1,T1,T1,T1,T1,F0,F0,F0,F0,F0,F0,F0,F0,F0,F0,F0]) rfl (p_move rfl) (dp (lj (lz (ln)))) ?_
    refine h_tk (i := 7) (ls := #[T1,T1,T1,T1,T1,T1,T1,T1,F0,F0,F0,F0,F0,F0,F0,F0,F0,F0]) rfl (p_subb rfl rfl (by omega)) (dp (lj (lz (ln)))) ?_
    refine h_tk (i := 10) (ls := #[T1,T1,T1,T1,T1,T1,T1,T1,F0,F0,T1,F0,F0,F0,F0,F0,F0,F0]) rfl (p_move rfl) (dp (lj (lz (ln)))) ?_
    refine h_tk (i := 11) (ls := #[T1,T1,T1,T1,T1,T1,T1,T1,F0,F0,T1,T1,F0,F0,F0,F0,F0,F0]) rfl (p_move rfl) (dp (lj (lz (ln)))) ?_
    refine h_two (i := 8) (j := 12) (ls := #[T1,T1,T1,T1,T1,T1,T1,T1,T1,F0,T1,T1,F0,F0,F0,F0,F0,F0]) (ls' := #[T1,T1,T1,T1,T1,T1,T1,T1,F0,F0,T1,T1,T1,F0,F0,F0,F0,F0]) (by kernel_rfl) rfl rfl rfl rfl ?_ ?_
    ·refine o_p (p_indexAddr (L := lt) (T := tInt) (i := (j - 1)) rfl rfl (rd_own (i := 1) rfl) Tryz.underlying22 sz3 (by omega) (by omega)) ?_
     refine o_nil ?_
     refine h_next (dp (lj (lz (ln)))) ?_
     refine h_two (i := 9) (j := 12) (ls := #[T1,T1,T1,T1,T1,T1,T1,T1,T1,T1,T1,T1,F0,F0,F0,F0,F0,F0]) (ls' := #[T1,T1,T1,T1,T1,T1,T1,T1,T1,F0,T1,T1,T1,F0,F0,F0,F0,F0]) (by kernel_rfl) rfl rfl rfl rfl ?_ ?_
     ·refine o_p (p_loadE1 (i := (j - 1).toNat) (T := tInt) (L := lt) (v := Vi (lt.getD ((j - 1).toNat) default)) rfl (rd_own (i := 1) rfl) (by first | assumption | omega) sh3 (congrArg tInt.enc (getd_at (by first | assumption | omega) default))) ?_
      refine o_nil ?_
      refine h_next (dp (lj (lz (ln)))) ?_
      refine h_one (i := 12) (ls := #[T1,T1,T1,T1,T1,T1,T1,T1,T1,T1,T1,T1,T1,F0,F0,F0,F0,F0]) (by kernel_rfl) rfl rfl ?_
      refine o_p (p_indexAddr (L := lt) (T := tInt) (i := j) rfl rfl (rd_own (i := 1) rfl) Tryz.underlying22 sz3 (by omega) (by omega)) ?_
      refine o_nil ?_
      refine h_next (dp (lj (lz (ln)))) ?_
      refine h_one (i := 13) (ls := #[T1,T1,T1,T1,T1,T1,T1,T1,T1,T1,T1,T1,T1,T1,F0,F0,F0,F0]) (by kernel_rfl) rfl rfl ?_
      refine o_p (p_loadE1 (i := j.toNat) (T := tInt) (L := lt) (v := Vi (lt.getD j.toNat default)) rfl (rd_own (i := 1) rfl) (by first | assumption | omega) sh3 (congrArg tInt.enc (getd_at (by first | assumption | omega) default))) ?_
      refine o_nil ?_
      refine h_next (dp (lj (lz (ln)))) ?_
      refine h_one (i := 14) (ls := #[T1,T1,T1,T1,T1,T1,T1,T1,T1,T1,T1,T1,T1,T1,T1,F0,F0,F0]) (by kernel_rfl) rfl rfl ?_
      refine o_p (p_indexAddr (L := lt) (T := tInt) (i := j) rfl rfl (rd_own (i := 1) rfl) Tryz.underlying22 sz3 (by omega) (by omega)) ?_
      refine o_nil ?_
      refine h_next (dp (lj (lz (ln)))) ?_
      refine h_one (i := 15) (ls := #[T1,T1,T1,T1,T1,T1,T1,T1,T1,T1,T1,T1,T1,T1,T1,T1,F0,F0]) (by kernel_rfl) rfl rfl ?_
      refine o_storeW (i := 1) (T := tInt) (idx := j.toNat) (v := Vi (lt.getD ((j - 1).toNat) default)) (vs := [Vi (lt.getD ((j - 1).toNat) default)]) (z := (lt.getD ((j - 1).toNat) default)) rfl rfl rfl rfl (by first | assumption | omega | (simp only [List.length_set]; omega)) sz3 rfl rfl rfl rfl (Sub.refl _) ?_
      refine o_nil ?_
      refine h_next (dp (lj (lz (ln)))) ?_
      refine h_one (i := 16) (ls := #[T1,T1,T1,T1,T1,T1,T1,T1,T1,T1,T1,T1,T1,T1,T1,T1,T1,F0]) (by kernel_rfl) rfl rfl ?_
      refine o_p (p_indexAddrS (T := tInt) (i := (j - 1)) (j := 1) (m := lt.length) rfl rfl rfl (by simp only [List.length_set]) Tryz.underlying22 sz3 (by omega) (by omega)) ?_
      refine o_nil ?_
      refine h_next (dp (lj (lz (ln)))) ?_
      refine h_one (i := 17) (ls := #[T1,T1,T1,T1,T1,T1,T1,T1,T1,T1,T1,T1,T1,T1,T1,T1,T1,T1]) (by kernel_rfl) rfl rfl ?_
      refine o_storeW (i := 1) (T := tInt) (idx := (j - 1).toNat) (v := Vi (lt.getD j.toNat default)) (vs := [Vi (lt.getD j.toNat default)]) (z := (lt.getD j.toNat default)) rfl rfl rfl rfl (by first | assumption | omega | (simp only [List.length_set]; omega)) sz3 rfl rfl rfl rfl (Sub.refl _) ?_
      refine o_nil ?_
      refine h_next (dp (lj (lz (ln)))) ?_
      refine h_done (by kernel_rfl) ?_
      refine q_kont hK7 () (sr (sr (sr (sr (sr (sr (Sub.nil _))))))) (pk [0, 1])
     ·refine o_p (p_indexAddr (L := lt) (T := tInt) (i := j) rfl rfl (rd_own (i := 1) rfl) Tryz.underlying22 sz3 (by omega) (by omega)) ?_
      refine o_nil ?_
      refine h_next (dp (lj (lz (ln)))) ?_
      refine h_two (i := 9) (j := 13) (ls := #[T1,T1,T1,T1,T1,T1,T1,T1,T1,T1,T1,T1,T1,F0,F0,F0,F0,F0]) (ls' := #[T1,T1,T1,T1,T1,T1,T1,T1,T1,F0,T1,T1,T1,T1,F0,F0,F0,F0]) (by kernel_rfl) rfl rfl rfl rfl ?_ ?_
      ·refine o_p (p_loadE1 (i := (j - 1).toNat) (T := tInt) (L := lt) (v := Vi (lt.getD ((j - 1).toNat) default)) rfl (rd_own (i := 1) rfl) (by first | assumption | omega) sh3 (congrArg tInt.enc (getd_at (by first | assumption | omega) default))) ?_
       refine o_nil ?_
       refine h_next (dp (lj (lz (ln)))) ?_
       refine h_one (i := 13) (ls := #[T1,T1,T1,T1,T1,T1,T1,T1,T1,T1,T1,T1,T1,T1,F0,F0,F0,F0]) (by kernel_rfl) rfl rfl ?_
       refine o_p (p_loadE1 (i := j.toNat) (T := tInt) (L := lt) (v := Vi (lt.getD j.toNat default)) rfl (rd_own (i := 1) rfl) (by first | assumption | omega) sh3 (congrArg tInt.enc (getd_at (by first | assumption | omega) default))) ?_
       refine o_nil ?_
       refine h_next (dp (lj (lz (ln)))) ?_
       refine h_one (i := 14) (ls := #[T1,T1,T1,T1,T1,T1,T1,T1,T1,T1,T1,T1,T1,T1,T1,F0,F0,F0]) (by kernel_rfl) rfl rfl ?_
       refine o_p (p_indexAddr (L := lt) (T := tInt) (i := j) rfl rfl (rd_own (i := 1) rfl) Tryz.underlying22 sz3 (by omega) (by omega)) ?_
       refine o_nil ?_
       refine h_next (dp (lj (lz (ln)))) ?_
       refine h_one (i := 15) (ls := #[T1,T1,T1,T1,T1,T1,T1,T1,T1,T1,T1,T1,T1,T1,T1,T1,F0,F0]) (by kernel_rfl) rfl rfl ?_
       refine o_storeW (i := 1) (T := tInt) (idx := j.toNat) (v := Vi (lt.getD ((j - 1).toNat) default)) (vs := [Vi (lt.getD ((j - 1).toNat) default)]) (z := (lt.getD ((j - 1).toNat) default)) rfl rfl rfl rfl (by first | assumption | omega | (simp only [List.length_set]; omega)) sz3 rfl rfl rfl rfl (Sub.refl _) ?_
       refine o_nil ?_
       refine h_next (dp (lj (lz (ln)))) ?_
       refine h_one (i := 16) (ls := #[T1,T1,T1,T1,T1,T1,T1,T1,T1,T1,T1,T1,T1,T1,T1,T1,T1,F0]) (by kernel_rfl) rfl rfl ?_
       refine o_p (p_indexAddrS (T := tInt) (i := (j - 1)) (j := 1) (m := lt.length) rfl rfl rfl (by simp only [List.length_set]) Tryz.underlying22 sz3 (by omega) (by omega)) ?_
       refine o_nil ?_
       refine h_next (dp (lj (lz (ln)))) ?_
       refine h_one (i := 17) (ls := #[T1,T1,T1,T1,T1,T1,T1,T1,T1,T1,T1,T1,T1,T1,T1,T1,T1,T1]) (by kernel_rfl) rfl rfl ?_
       refine o_storeW (i := 1) (T := tInt) (idx := (j - 1).toNat) (v := Vi (lt.getD j.toNat default)) (vs := [Vi (lt.getD j.toNat default)]) (z := (lt.getD j.toNat default)) rfl rfl rfl rfl (by first | assumption | omega | (simp only [List.length_set]; omega)) sz3 rfl rfl rfl rfl (Sub.refl _) ?_
       refine o_nil ?_
       refine h_next (dp (lj (lz (ln)))) ?_
       refine h_done (by kernel_rfl) ?_
       refine q_kont hK7 () (sr (sr (sr (sr (sr (sr (Sub.nil _))))))) (pk [0, 1])
      ·refine o_p (p_loadE1 (i := j.toNat) (T := tInt) (L := lt) (v := Vi (lt.getD j.toNat default)) rfl (rd_own (i := 1) rfl) (by first | assumption | omega) sh3 (congrArg tInt.enc (getd_at (by first | assumption | omega) default))) ?_
       refine o_nil ?_
       refine h_next (dp (lj (lz (ln)))) ?_
       refine h_one (i := 9) (ls := #[T1,T1,T1,T1,T1,T1,T1,T1,T1,T1,T1,T1,T1,T1,F0,F0,F0,F0]) (by kernel_rfl) rfl rfl ?_
       refine o_p (p_loadE1 (i := (j - 1).toNat) (T := tInt) (L := lt) (v := Vi (lt.getD ((j - 1).toNat) default)) rfl (rd_own (i := 1) rfl) (by first | assumption | omega) sh3 (congrArg tInt.enc (getd_at (by first | assumption | omega) default))) ?_
       refine o_nil ?_
       refine h_next (dp (lj (lz (ln)))) ?_
       refine h_one (i := 14) (ls := #[T1,T1,T1,T1,T1,T1,T1,T1,T1,T1,T1,T1,T1,T1,T1,F0,F0,F0]) (by kernel_rfl) rfl rfl ?_
       refine o_p (p_indexAddr (L := lt) (T := tInt) (i := j) rfl rfl (rd_own (i := 1) rfl) Tryz.underlying22 sz3 (by omega) (by omega)) ?_
       refine o_nil ?_
       refine h_next (dp (lj (lz (ln)))) ?_
       refine h_one (i := 15) (ls := #[T1,T1,T1,T1,T1,T1,T1,T1,T1,T1,T1,T1,T1,T1,T1,T1,F0,F0]) (by kernel_rfl) rfl rfl ?_
       refine o_storeW (i := 1) (T := tInt) (idx := j.toNat) (v := Vi (lt.getD ((j - 1).toNat) default)) (vs := [Vi (lt.getD ((j - 1).toNat) default)]) (z := (lt.getD ((j - 1).toNat) default)) rfl rfl rfl rfl (by first | assumption | omega | (simp only [List.length_set]; omega)) sz3 rfl rfl rfl rfl (Sub.refl _) ?_
       refine o_nil ?_
       refine h_next (dp (lj (lz (ln)))) ?_
       refine h_one (i := 16) (ls := #[T1,T1,T1,T1,T1,T1,T1,T1,T1,T1,T1,T1,T1,T1,T1,T1,T1,F0]) (by kernel_rfl) rfl rfl ?_
       refine o_p (p_indexAddrS (T := tInt) (i := (j - 1)) (j := 1) (m := lt.length) rfl rfl rfl (by simp only [List.length_set]) Tryz.underlying22 sz3 (by omega) (by omega)) ?_
       refine o_nil ?_
       refine h_next (dp (lj (lz (ln)))) ?_
       refine h_one (i := 17) (ls := #[T1,T1,T1,T1,T1,T1,T1,T1,T1,T1,T1,T1,T1,T1,T1,T1,T1,T1]) (by kernel_rfl) rfl rfl ?_
       refine o_storeW (i := 1) (T := tInt) (idx := (j - 1).toNat) (v := Vi (lt.getD j.toNat default)) (vs := [Vi (lt.getD j.toNat default)]) (z := (lt.getD j.toNat default)) rfl rfl rfl rfl (by first | assumption | omega | (simp only [List.length_set]; omega)) sz3 rfl rfl rfl rfl (Sub.refl _) ?_
       refine o_nil ?_
       refine h_next (dp (lj (lz (ln)))) ?_
       refine h_done (by kernel_rfl) ?_
       refine q_kont hK7 () (sr (sr (sr (sr (sr (sr (Sub.nil _))))))) (pk [0, 1])
    ·refine o_p (p_indexAddr (L := lt) (T := tInt) (i := j) rfl rfl (rd_own (i := 1) rfl) Tryz.underlying22 sz3 (by omega) (by omega)) ?_
     refine o_nil ?_
     refine h_next (dp (lj (lz (ln)))) ?_
     refine h_two (i := 8) (j := 13) (ls := #[T1,T1,T1,T1,T1,T1,T1,T1,T1,F0,T1,T1,T1,F0,F0,F0,F0,F0]) (ls' := #[T1,T1,T1,T1,T1,T1,T1,T1,F0,F0,T1,T1,T1,T1,F0,F0,F0,F0]) (by kernel_rfl) rfl rfl rfl rfl ?_ ?_
     ·refine o_p (p_indexAddr (L := lt) (T := tInt) (i := (j - 1)) rfl rfl (rd_own (i := 1) rfl) Tryz.underlying22 sz3 (by omega) (by omega)) ?_
      refine o_nil ?_
      refine h_next (dp (lj (lz (ln)))) ?_
      refine h_two (i := 9) (j := 13) (ls := #[T1,T1,T1,T1,T1,T1,T1,T1,T1,T1,T1,T1,T1,F0,F0,F0,F0,F0]) (ls' := #[T1,T1,T1,T1,T1,T1,T1,T1,T1,F0,T1,T1,T1,T1,F0,F0,F0,F0]) (by kernel_rfl) rfl rfl rfl rfl ?_ ?_
      ·refine o_p (p_loadE1 (i := (j - 1).toNat) (T := tInt) (L := lt) (v := Vi (lt.getD ((j - 1).toNat) default)) rfl (rd_own (i := 1) rfl) (by first | assumption | omega) sh3 (congrArg tInt.enc (getd_at (by first | assumption | omega) default))) ?_
       refine o_nil ?_
       refine h_next (dp (lj (lz (ln)))) ?_
       refine h_one (i := 13) (ls := #[T1,T1,T1,T1,T1,T1,T1,T1,T1,T1,T1,T1,T1,T1,F0,F0,F0,F0]) (by kernel_rfl) rfl rfl ?_
       refine o_p (p_loadE1 (i := j.toNat) (T := tInt) (L := lt) (v := Vi (lt.getD j.toNat default)) rfl (rd_own (i := 1) rfl) (by first | assumption | omega) sh3 (congrArg tInt.enc (getd_at (by first | assumption | omega) default))) ?_
       refine o_nil ?_
       refine h_next (dp (lj (lz (ln)))) ?_
       refine h_one (i := 14) (ls := #[T1,T1,T1,T1,T1,T1,T1,T1,T1,T1,T1,T1,T1,T1,T1,F0,F0,F0]) (by kernel_rfl) rfl rfl ?_
       refine o_p (p_indexAddr (L := lt) (T := tInt) (i := j) rfl rfl (rd_own (i := 1) rfl) Tryz.underlying22 sz3 (by omega) (by omega)) ?_
       refine o_nil ?_
       refine h_next (dp (lj (lz (ln)))) ?_
       refine h_one (i := 15) (ls := #[T1,T1,T1,T1,T1,T1,T1,T1,T1,T1,T1,T1,T1,T1,T1,T1,F0,F0]) (by kernel_rfl) rfl rfl ?_
       refine o_storeW (i := 1) (T := tInt) (idx := j.toNat) (v := Vi (lt.getD ((j - 1).toNat) default)) (vs := [Vi (lt.getD ((j - 1).toNat) default)]) (z := (lt.getD ((j - 1).toNat) default)) rfl rfl rfl rfl (by first | assumption | omega | (simp only [List.length_set]; omega)) sz3 rfl rfl rfl rfl (Sub.refl _) ?_
       refine o_nil ?_
       refine h_next (dp (lj (lz (ln)))) ?_
       refine h_one (i := 16) (ls := #[T1,T1,T1,T1,T1,T1,T1,T1,T1,T1,T1,T1,T1,T1,T1,T1,T1,F0]) (by kernel_rfl) rfl rfl ?_
       refine o_p (p_indexAddrS (T := tInt) (i := (j - 1)) (j := 1) (m := lt.length) rfl rfl rfl (by simp only [List.length_set]) Tryz.underlying22 sz3 (by omega) (by omega)) ?_
       refine o_nil ?_
       refine h_next (dp (lj (lz (ln)))) ?_
       refine h_one (i := 17) (ls := #[T1,T1,T1,T1,T1,T1,T1,T1,T1,T1,T1,T1,T1,T1,T1,T1,T1,T1]) (by kernel_rfl) rfl rfl ?_
       refine o_storeW (i := 1) (T := tInt) (idx := (j - 1).toNat) (v := Vi (lt.getD j.toNat default)) (vs := [Vi (lt.getD j.toNat default)]) (z := (lt.getD j.toNat default)) rfl rfl rfl rfl (by first | assumption | omega | (simp only [List.length_set]; omega)) sz3 rfl rfl rfl rfl (Sub.refl _) ?_
       refine o_nil ?_
       refine h_next (dp (lj (lz (ln)))) ?_
       refine h_done (by kernel_rfl) ?_
       refine q_kont hK7 () (sr (sr (sr (sr (sr (sr (Sub.nil _))))))) (pk [0, 1])
      ·refine o_p (p_loadE1 (i := j.toNat) (T := tInt) (L := lt) (v := Vi (lt.getD j.toNat default)) rfl (rd_own (i := 1) rfl) (by first | assumption | omega) sh3 (congrArg tInt.enc (getd_at (by first | assumption | omega) default))) ?_
       refine o_nil ?_
       refine h_next (dp (lj (lz (ln)))) ?_
       refine h_one (i := 9) (ls := #[T1,T1,T1,T1,T1,T1,T1,T1,T1,T1,T1,T1,T1,T1,F0,F0,F0,F0]) (by kernel_rfl) rfl rfl ?_
       refine o_p (p_loadE1 (i := (j - 1).toNat) (T := tInt) (L := lt) (v := Vi (lt.getD ((j - 1).toNat) default)) rfl (rd_own (i := 1) rfl) (by first | assumption | omega) sh3 (congrArg tInt.enc (getd_at (by first | assumption | omega) default))) ?_
       refine o_nil ?_
       refine h_next (dp (lj (lz (ln)))) ?_
       refine h_one (i := 14) (ls := #[T1,T1,T1,T1,T1,T1,T1,T1,T1,T1,T1,T1,T1,T1,T1,F0,F0,F0]) (by kernel_rfl) rfl rfl ?_
       refine o_p (p_indexAddr (L := lt) (T := tInt) (i := j) rfl rfl (rd_own (i := 1) rfl) Tryz.underlying22 sz3 (by omega) (by omega)) ?_
       refine o_nil ?_
       refine h_next (dp (lj (lz (ln)))) ?_
       refine h_one (i := 15) (ls := #[T1,T1,T1,T1,T1,T1,T1,T1,T1,T1,T1,T1,T1,T1,T1,T1,F0,F0]) (by kernel_rfl) rfl rfl ?_
       refine o_storeW (i := 1) (T := tInt) (idx := j.toNat) (v := Vi (lt.getD ((j - 1).toNat) default)) (vs := [Vi (lt.getD ((j - 1).toNat) default)]) (z := (lt.getD ((j - 1).toNat) default)) rfl rfl rfl rfl (by first | assumption | omega | (simp only [List.length_set]; omega)) sz3 rfl rfl rfl rfl (Sub.refl _) ?_
       refine o_nil ?_
       refine h_next (dp (lj (lz (ln)))) ?_
       refine h_one (i := 16) (ls := #[T1,T1,T1,T1,T1,T1,T1,T1,T1,T1,T1,T1,T1,T1,T1,T1,T1,F0]) (by kernel_rfl) rfl rfl ?_
       refine o_p (p_indexAddrS (T := tInt) (i := (j - 1)) (j := 1) (m := lt.length) rfl rfl rfl (by simp only [List.length_set]) Tryz.underlying22 sz3 (by omega) (by omega)) ?_
       refine o_nil ?_
       refine h_next (dp (lj (lz (ln)))) ?_
       refine h_one (i := 17) (ls := #[T1,T1,T1,T1,T1,T1,T1,T1,T1,T1,T1,T1,T1,T1,T1,T1,T1,T1]) (by kernel_rfl) rfl rfl ?_
       refine o_storeW (i := 1) (T := tInt) (idx := (j - 1).toNat) (v := Vi (lt.getD j.toNat default)) (vs := [Vi (lt.getD j.toNat default)]) (z := (lt.getD j.toNat default)) rfl rfl rfl rfl (by first | assumption | omega | (simp only [List.length_set]; omega)) sz3 rfl rfl rfl rfl (Sub.refl _) ?_
       refine o_nil ?_
       refine h_next (dp (lj (lz (ln)))) ?_
       refine h_done (by kernel_rfl) ?_
       refine q_kont hK7 () (sr (sr (sr (sr (sr (sr (Sub.nil _))))))) (pk [0, 1])
     ·refine o_p (p_loadE1 (i := j.toNat) (T := tInt) (L := lt) (v := Vi (lt.getD j.toNat default)) rfl (rd_own (i := 1) rfl) (by first | assumption | omega) sh3 (congrArg tInt.enc (getd_at (by first | assumption | omega) default))) ?_
      refine o_nil ?_
      refine h_next (dp (lj (lz (ln)))) ?_
      refine h_one (i := 8) (ls := #[T1,T1,T1,T1,T1,T1,T1,T1,T1,F0,T1,T1,T1,T1,F0,F0,F0,F0]) (by kernel_rfl) rfl rfl ?_
      refine o_p (p_indexAddr (L := lt) (T := tInt) (i := (j - 1)) rfl rfl (rd_own (i := 1) rfl) Tryz.underlying22 sz3 (by omega) (by omega)) ?_
      refine o_nil ?_
      refine h_next (dp (lj (lz (ln)))) ?_
      refine h_one (i := 9) (ls := #[T1,T1,T1,T1,T1,T1,T1,T1,T1,T1,T1,T1,T1,T1,F0,F0,F0,F0]) (by kernel_rfl) rfl rfl ?_
      refine o_p (p_loadE1 (i := (j - 1).toNat) (T := tInt) (L := lt) (v := Vi (lt.getD ((j - 1).toNat) default)) rfl (rd_own (i := 1) rfl) (by first | assumption | omega) sh3 (congrArg tInt.enc (getd_at (by first | assumption | omega) default))) ?_
      refine o_nil ?_
      refine h_next (dp (lj (lz (ln)))) ?_
      refine h_one (i := 14) (ls := #[T1,T1,T1,T1,T1,T1,T1,T1,T1,T1,T1,T1,T1,T1,T1,F0,F0,F0]) (by kernel_rfl) rfl rfl ?_
      refine o_p (p_indexAddr (L := lt) (T := tInt) (i := j) rfl rfl (rd_own (i := 1) rfl) Tryz.underlying22 sz3 (by omega) (by omega)) ?_
      refine o_nil ?_
      refine h_next (dp (lj (lz (ln)))) ?_
      refine h_one (i := 15) (ls := #[T1,T1,T1,T1,T1,T1,T1,T1,T1,T1,T1,T1,T1,T1,T1,T1,F0,F0]) (by kernel_rfl) rfl rfl ?_
      refine o_storeW (i := 1) (T := tInt) (idx := j.toNat) (v := Vi (lt.getD ((j - 1).toNat) default)) (vs := [Vi (lt.getD ((j - 1).toNat) default)]) (z := (lt.getD ((j - 1).toNat) default)) rfl rfl rfl rfl (by first | assumption | omega | (simp only [List.length_set]; omega)) sz3 rfl rfl rfl rfl (Sub.refl _) ?_
      refine o_nil ?_
      refine h_next (dp (lj (lz (ln)))) ?_
      refine h_one (i := 16) (ls := #[T1,T1,T1,T1,T1,T1,T1,T1,T1,T1,T1,T1,T1,T1,T1,T1,T1,F0]) (by kernel_rfl) rfl rfl ?_
      refine o_p (p_indexAddrS (T := tInt) (i := (j - 1)) (j := 1) (m := lt.length) rfl rfl rfl (by simp only [List.length_set]) Tryz.underlying22 sz3 (by omega) (by omega)) ?_
      refine o_nil ?_
      refine h_next (dp (lj (lz (ln)))) ?_
      refine h_one (i := 17) (ls := #[T1,T1,T1,T1,T1,T1,T1,T1,T1,T1,T1,T1,T1,T1,T1,T1,T1,T1]) (by kernel_rfl) rfl rfl ?_
      refine o_storeW (i := 1) (T := tInt) (idx := (j - 1).toNat) (v := Vi (lt.getD j.toNat default)) (vs := [Vi (lt.getD j.toNat default)]) (z := (lt.getD j.toNat default)) rfl rfl rfl rfl (by first | assumption | omega | (simp only [List.length_set]; omega)) sz3 rfl rfl rfl rfl (Sub.refl _) ?_
      refine o_nil ?_
      refine h_next (dp (lj (lz (ln)))) ?_
      refine h_done (by kernel_rfl) ?_
      refine q_kont hK7 () (sr (sr (sr (sr (sr (sr (Sub.nil _))))))) (pk [0, 1])
   rintro _
   show SQ _ 53 w0 _ _ [(0, .slice al lt.length cl), (1, Vi a), (2, Vi b), (3, .func (.func 17) #[] #[.pointer (some ⟨Bq, 0, none⟩)]), (8, Vi i), (9, Vi j)] [outer w0 [own tInt Sl al cl l], own tInt Sl al cl ((lt.set j.toNat (lt.getD ((j - 1).toNat) default)).set ((j - 1).toNat) (lt.getD j.toNat default))]
   refine q_cast (F' := [(0, .slice al ((lt.set j.toNat (lt.getD ((j - 1).toNat) default)).set ((j - 1).toNat) (lt.getD j.toNat default)).length cl), (1, Vi a), (2, Vi b), (3, .func (.func 17) #[] #[.pointer (some ⟨Bq, 0, none⟩)]), (8, Vi i), (9, Vi j)]) (H := [outer w0 [own tInt Sl al cl l], own tInt Sl al cl ((lt.set j.toNat (lt.getD ((j - 1).toNat) default)).set ((j - 1).toNat) (lt.getD j.toNat default))]) (H' := [outer w0 [own tInt Sl al cl l], own tInt Sl al cl ((lt.set j.toNat (lt.getD ((j - 1).toNat) default)).set ((j - 1).toNat) (lt.getD j.toNat default))]) (Sub.cons (by simp only [List.length_set, List.length_reverse]; rfl) (sr (sr (sr (sr (sr (Sub.nil _))))))) (by rfl) ?_
   refine q_block_normal (q_then ?_)
   refine c_region ?_
   refine o_mv rfl rfl ?_
   refine o_p (p_subb rfl rfl (by omega)) ?_
   refine o_as rfl rfl ?_
   refine o_nil ?_
   refine q_round hK3 ((j - 1), ((lt.set j.toNat (lt.getD ((j - 1).toNat) default)).set ((j - 1).toNat) (lt.getD j.toNat default))) ?_ ?_ ?_ ?_
   ·clear hK3
    exact hI.next (by omega) (by omega)
   ·(try dsimp only); omega
   ·exact sr (sr (sr (sr (sr (sr (Sub.nil _))))))
   ·exact pk [0, 1]
  ·simp only [Bool.and_eq_false_iff, decide_eq_false_iff_not, Int.not_lt] at hc5
   have hst := hc5
   refine c_exit ?_
   refine q_then_exit (q_then_exit (q_block_exit (q_block_normal (q_then ?_))))
   refine c_region ?_
   refine o_mv rfl rfl ?_
   refine o_p (p_addb rfl rfl (by omega)) ?_
   refine o_as rfl rfl ?_
   refine o_nil ?_
   refine q_round hK1 ((i + 1), lt) ?_ ?_ ?_ ?_
   ·clear hK1
    exact hI.fin (by have h9 := hI.a0; omega)
   ·(try dsimp only); omega
   ·exact sr (sr (sr (sr (sr (Sub.nil _)))))
   ·exact pk [0, 1]
 ·simp only [decide_eq_false_iff_not, Int.not_lt] at hc2
  refine c_exit ?_
  refine q_then_exit (q_then_exit (q_block_exit ?_))
  have hr0 : (ls : List Int) = (if a = 0 then St.isort (Cmp.cmp q) l else l) := by
   exact hI.done (by omega)
  refine q_endX (p := ()) (rt0 rfl) ?_ (fun w hw => ?_)
  ·exact rfl
  ·have h2 := hw.pick (H' := [outer w0 [own tInt Sl al cl l], own tInt Sl al cl ls]) [0, 1] (by decide) rfl
   exact Eq.mp (congrArg (fun z => HeapIs w0 ((outer w0 [own tInt Sl al cl l]) :: z) w) ((by have hcc := congrArg (fun (y0 : List Int) => ([own tInt Sl al cl y0] : List Ent)) hr0; exact hcc))) h2

set_option maxHeartbeats 8000000 in
set_option maxRecDepth 100000 in
theorem stableCmp_ok (l : List Int) (al : Option Addr) (cl : Nat) (Sl : Nat → Prop) (n : Int) (Bq : Nat) (q : List Int) (aq : Option Addr) (cq : Nat) (hy1 : n = (l.length : Int) ∧ l.length ≤ 20) (hy2 : (∀ x ∈ l, 1 ≤ x ∧ x ≤ (q.length : Int)) ∧ q.length ≤ 5) : FnX Tryz.prog 40 [.slice al l.length cl, Vi n, .func (.func 17) #[] #[.pointer (some ⟨Bq, 0, none⟩)]] [own tInt Sl al cl l] (fun w => SlR tInt (outer w [own tInt Sl al cl l]).S w aq cq q ∧ ((box Bq [.slice aq q.length cq] 22).A w ∧ (outer w [own tInt Sl al cl l]).S Bq)) (Unit) (fun p => .tuple #[]) (fun p => [own tInt Sl al cl (St.isort (Cmp.cmp q) l)]) := by
 refine fnX (nt := 63) (F0 := [(0, .slice al l.length cl), (1, Vi n), (2, .func (.func 17) #[] #[.pointer (some ⟨Bq, 0, none⟩)])]) Tryz.func40 rfl Tryz.ntmps40 rfl rfl (fun w0 hpre => ?_)
 obtain ⟨hq, hBq⟩ := hpre
 have hlhq := hq.2.1
 refine c_know (fun w hw => own_len (i := 1) (T := tInt) hw rfl) (fun hlown_l => ?_)
 obtain ⟨hcown_l, hlown_l⟩ := hlown_l
 refine c_seq (c_region ?_)
 refine o_as rfl rfl ?_
 refine o_nil (q_then (c_seq (c_region ?_)))
 refine o_mv rfl rfl ?_
 refine o_as rfl rfl ?_
 refine o_as rfl rfl ?_
 refine o_nil (q_then (c_seq (c_block ?_)))
 refine c_loop (St := Int × Int × List Int)
  (fun ⟨a2, b2, ls⟩ => [(0, .slice al ls.length cl), (1, Vi n), (2, .func (.func 17) #[] #[.pointer (some ⟨Bq, 0, none⟩)]), (6, Vi 20), (7, Vi a2), (8, Vi b2)])
  (fun ⟨a2, b2, ls⟩ => [outer w0 [own tInt Sl al cl l], own tInt Sl al cl ls])
  (fun ⟨a2, b2, ls⟩ => St.BI (Cmp.cmp q) l ls a2 b2)
  (fun ⟨a2, b2, ls⟩ => (60 - b2).toNat)
  (0, 20, l) ?_ (sr (sr (sr (sr (sr (sr (Sub.nil _))))))) (fun _ hw => hw) ?_
 ·exact St.BI.start
 rintro ⟨a2, b2, ls⟩ hI K hK1
 have hBl := hI.len
 have hBa := hI.cases
 show SC _ _ Tryz.prog 63 w0 _ _ [(0, .slice al ls.length cl), (1, Vi n), (2, .func (.func 17) #[] #[.pointer (some ⟨Bq, 0, none⟩)]), (6, Vi 20), (7, Vi a2), (8, Vi b2)] [outer w0 [own tInt Sl al cl l], own tInt Sl al cl ls]
 refine c_seq (c_seq (c_region ?_))
 refine o_mv rfl rfl ?_
 refine o_mv rfl rfl ?_
 refine o_p (p_le rfl rfl) ?_
 refine o_nil (q_then ?_)
 refine c_cond rfl (fun hc2 => ?_) (fun hc2 => ?_)
 ·simp only [decide_eq_true_eq] at hc2
  have hgo := hc2
  have hside := (show (∀ x ∈ ls, 1 ≤ x ∧ x ≤ (q.length : Int)) ∧ q.length ≤ 5 from ⟨fun x hx => hy2.1 x (hI.mem.1 hx), hy2.2⟩)
  refine c_skip (q_then (c_block (c_seq (c_region ?_))))
  refine o_mv rfl rfl ?_
  refine o_mv rfl rfl ?_
  refine o_mv rfl rfl ?_
  refine o_mv rfl rfl ?_
  refine o_pick (H' := [own tInt Sl al cl ls, outer w0 [own tInt Sl al cl l]]) [1, 0] (by decide) rfl ?_
  refine o_callX (pre := [own tInt Sl al cl ls]) (R := [outer w0 [own tInt Sl al cl l]]) rfl (insSort_ok ls al cl Sl a2 b2 Bq q aq cq (by first | assumption | omega) (by first | assumption | exact hside)) hf66 rfl (fun w hw => ⟨(rdX (i := 1) (js := [0]) rfl (by decide) rfl (fun _ hA => slR_outer hq hA)) w hw, boxX_outer (i := 1) (js := [0]) rfl (by decide) rfl hBq w hw⟩) rfl ?_
  rintro ⟨⟩
  refine o_asH (H' := [own tInt Sl al cl (if a2 = 0 then St.isort (Cmp.cmp q) ls else ls), outer w0 [own tInt Sl al cl l]]) rfl ?_
  refine o_cast (F' := [(0, .slice al (if a2 = 0 then St.isort (Cmp.cmp q) ls else ls).length cl), (1, Vi n), (2, .func (.func 17) #[] #[.pointer (some ⟨Bq, 0, none⟩)]), (6, Vi 20), (8, Vi b2)]) (H := [own tInt Sl al cl (if a2 = 0 then St.isort (Cmp.cmp q) ls else ls), outer w0 [own tInt Sl al cl l]]) (H' := [own tInt Sl al cl (if a2 = 0 then St.isort (Cmp.cmp q) ls else ls), outer w0 [own tInt Sl al cl l]]) (Sub.cons (by simp only [List.length_set, List.length_reverse, St.ite_len]; rfl) (sr (sr (sr (sr (Sub.nil _)))))) (by rfl) ?_
  refine o_nil (q_then (c_seq (c_region ?_)))
  refine o_mv rfl rfl ?_
  refine o_as rfl rfl ?_
  refine o_nil (q_then (c_region ?_))
  refine o_mv rfl rfl ?_
  refine o_mv rfl rfl ?_
  refine o_p (p_addb rfl rfl (by omega)) ?_
  refine o_as rfl rfl ?_
  refine o_nil ?_
  refine q_block_normal ?_
  refine q_round hK1 (b2, (b2 + 20), (if a2 = 0 then St.isort (Cmp.cmp q) ls else ls)) ?_ ?_ ?_ ?_
  ·clear hK1
   exact hI.next (by omega)
  ·(try dsimp only); omega
  ·exact sr (sr (sr (sr (sr (sr (Sub.nil _))))))
  ·exact pk [1, 0]
 ·simp only [decide_eq_false_iff_not, Int.not_le] at hc2
  have hst := hc2
  have hS := hI
  have hside := (show (∀ x ∈ ls, 1 ≤ x ∧ x ≤ (q.length : Int)) ∧ q.length ≤ 5 from ⟨fun x hx => hy2.1 x (hI.mem.1 hx), hy2.2⟩)
  refine c_exit ?_
  refine q_then_exit (q_then_exit (q_block_exit (q_then ?_)))
  refine c_seq (c_region ?_)
  refine o_mv rfl rfl ?_
  refine o_mv rfl rfl ?_
  refine o_mv rfl rfl ?_
  refine o_mv rfl rfl ?_
  refine o_pick (H' := [own tInt Sl al cl ls, outer w0 [own tInt Sl al cl l]]) [1, 0] (by decide) rfl ?_
  refine o_callX (pre := [own tInt Sl al cl ls]) (R := [outer w0 [own tInt Sl al cl l]]) rfl (insSort_ok ls al cl Sl a2 n Bq q aq cq (by first | assumption | omega) (by first | assumption | exact hside)) hf66 rfl (fun w hw => ⟨(rdX (i := 1) (js := [0]) rfl (by decide) rfl (fun _ hA => slR_outer hq hA)) w hw, boxX_outer (i := 1) (js := [0]) rfl (by decide) rfl hBq w hw⟩) rfl ?_
  rintro ⟨⟩
  refine o_asH (H' := [own tInt Sl al cl (if a2 = 0 then St.isort (Cmp.cmp q) ls else ls), outer w0 [own tInt Sl al cl l]]) rfl ?_
  refine o_cast (F' := [(0, .slice al (if a2 = 0 then St.isort (Cmp.cmp q) ls else ls).length cl), (1, Vi n), (2, .func (.func 17) #[] #[.pointer (some ⟨Bq, 0, none⟩)]), (6, Vi 20)]) (H := [own tInt Sl al cl (if a2 = 0 then St.isort (Cmp.cmp q) ls else ls), outer w0 [own tInt Sl al cl l]]) (H' := [own tInt Sl al cl (if a2 = 0 then St.isort (Cmp.cmp q) ls else ls), outer w0 [own tInt Sl al cl l]]) (Sub.cons (by simp only [List.length_set, List.length_reverse, St.ite_len]; rfl) (sr (sr (sr (Sub.nil _))))) (by rfl) ?_
  refine o_nil (q_then (c_block ?_))
  refine c_loop (St := Int × List Int)
   (fun ⟨bs, lt⟩ => [(0, .slice al lt.length cl), (1, Vi n), (2, .func (.func 17) #[] #[.pointer (some ⟨Bq, 0, none⟩)]), (6, Vi bs)])
   (fun ⟨bs, lt⟩ => [own tInt Sl al cl lt, outer w0 [own tInt Sl al cl l]])
   (fun ⟨bs, lt⟩ => bs = 20 ∧ lt = St.isort (Cmp.cmp q) l)
   (fun ⟨bs, lt⟩ => 0)
   (20, (if a2 = 0 then St.isort (Cmp.cmp q) ls else ls)) ?_ (sr (sr (sr (sr (Sub.nil _))))) (fun _ hw => hw) ?_
  ·exact ⟨rfl, hS.done⟩
  rintro ⟨bs, lt⟩ hI K hK3
  obtain ⟨hI1, hI2⟩ := id hI
  show SC _ _ Tryz.prog 63 w0 _ _ [(0, .slice al lt.length cl), (1, Vi n), (2, .func (.func 17) #[] #[.pointer (some ⟨Bq, 0, none⟩)]), (6, Vi bs)] [own tInt Sl al cl lt, outer w0 [own tInt Sl al cl l]]
  refine c_seq (c_seq (c_region ?_))
  refine o_mv rfl rfl ?_
  refine o_mv rfl rfl ?_
  refine o_p (p_lt rfl rfl) ?_
  refine o_nil (q_then ?_)
  refine c_cond rfl (fun hc4 => ?_) (fun hc4 => ?_)
  ·simp only [decide_eq_true_eq] at hc4
   exfalso; omega
  ·simp only [decide_eq_false_iff_not, Int.not_lt] at hc4
   refine c_exit ?_
   refine q_then_exit (q_then_exit (q_block_exit ?_))
   have hr0 : (lt : List Int) = (St.isort (Cmp.cmp q) l) := by
    exact hI.2
   refine q_endX (p := ()) (rt0 rfl) ?_ (fun w hw => ?_)
   ·exact rfl
   ·have h2 := hw.pick (H' := [outer w0 [own tInt Sl al cl l], own tInt Sl al cl lt]) [1, 0] (by decide) rfl
    exact Eq.mp (congrArg (fun z => HeapIs w0 ((outer w0 [own tInt Sl al cl l]) :: z) w) ((by have hcc := congrArg (fun (y0 : List Int) => ([own tInt Sl al cl y0] : List Ent)) hr0; exact hcc))) h2

set_option maxHeartbeats 8000000 in
set_option maxRecDepth 100000 in
theorem sortStable_ok (l : List Int) (al : Option Addr) (cl : Nat) (Sl : Nat → Prop) (Bq : Nat) (q : List Int) (aq : Option Addr) (cq : Nat) (hy1 : l.length ≤ 20) (hy2 : (∀ x ∈ l, 1 ≤ x ∧ x ≤ (q.length : Int)) ∧ q.length ≤ 5) : FnX Tryz.prog 16 [.slice al l.length cl, .func (.func 17) #[] #[.pointer (some ⟨Bq, 0, none⟩)]] [own tInt Sl al cl l] (fun w => SlR tInt (outer w [own tInt Sl al cl l]).S w aq cq q ∧ ((box Bq [.slice aq q.length cq] 22).A w ∧ (outer w [own tInt Sl al cl l]).S Bq)) (Unit) (fun p => .tuple #[]) (fun p => [own tInt Sl al cl (St.isort (Cmp.cmp q) l)]) := by
 refine fnX (nt := 9) (F0 := [(0, .slice al l.length cl), (1, .func (.func 17) #[] #[.pointer (some ⟨Bq, 0, none⟩)])]) Tryz.func16 rfl Tryz.ntmps16 rfl rfl (fun w0 hpre => ?_)
 obtain ⟨hq, hBq⟩ := hpre
 have hlhq := hq.2.1
 refine c_know (fun w hw => own_len (i := 1) (T := tInt) hw rfl) (fun hlown_l => ?_)
 obtain ⟨hcown_l, hlown_l⟩ := hlown_l
 refine c_region ?_
 refine o_mv rfl rfl ?_
 refine o_mv rfl rfl ?_
 refine o_p (p_len_slice rfl rfl Tryz.underlying22) ?_
 refine o_mv rfl rfl ?_
 refine o_pick (H' := [own tInt Sl al cl l, outer w0 [own tInt Sl al cl l]]) [1, 0] (by decide) rfl ?_
 refine o_callX (pre := [own tInt Sl al cl l]) (R := [outer w0 [own tInt Sl al cl l]]) rfl (stableCmp_ok l al cl Sl (l.length : Int) Bq q aq cq (by first | assumption | omega) (by first | assumption | exact hside)) hf40 rfl (fun w hw => ⟨(rdX (i := 1) (js := [0]) rfl (by decide) rfl (fun _ hA => slR_outer hq hA)) w hw, boxX_outer (i := 1) (js := [0]) rfl (by decide) rfl hBq w hw⟩) rfl ?_
 rintro ⟨⟩
 refine o_asH (H' := [own tInt Sl al cl (St.isort (Cmp.cmp q) l), outer w0 [own tInt Sl al cl l]]) rfl ?_
 refine o_cast (F' := []) (H := [own tInt Sl al cl (St.isort (Cmp.cmp q) l), outer w0 [own tInt Sl al cl l]]) (H' := [own tInt Sl al cl (St.isort (Cmp.cmp q) l), outer w0 [own tInt Sl al cl l]]) (Sub.nil _) (by rfl) ?_
 refine o_nil ?_
 refine q_endX (p := ()) (rt0 rfl) ?_ (fun w hw => ?_)
 ·exact rfl
 ·have h2 := hw.pick (H' := [outer w0 [own tInt Sl al cl l], own tInt Sl al cl (St.isort (Cmp.cmp q) l)]) [1, 0] (by decide) rfl
  exact Eq.mp (congrArg (fun z => HeapIs w0 ((outer w0 [own tInt Sl al cl l]) :: z) w) (rfl)) h2

set_option maxHeartbeats 8000000 in
set_option maxRecDepth 100000 in
theorem cprank_ok (l : List Int) (al : Option Addr) (cl : Nat) (room : Int) : FnM Tryz.prog 6 [.slice al l.length cl, Vi room] (fun w => Rd tInt w al cl l) (Option Addr × Nat) (fun p => .tuple #[.slice p.1 (Cmp.rank l room).length p.2, Vi (Cmp.check l room)]) (fun p S w => SlO tInt S w p.1 p.2 (Cmp.rank l room)) := by
 refine fnM (nt := 34) (F0 := [(0, .slice al l.length cl), (1, Vi room)]) Tryz.func6 rfl Tryz.ntmps6 rfl rfl (fun w0 hpre => ?_)
 have hl := hpre
 have hlhl := hl.2.1
 refine c_seq (c_region ?_)
 refine o_as rfl rfl ?_
 refine o_as rfl rfl ?_
 refine o_nil (q_then (c_seq (c_region ?_)))
 refine o_mv rfl rfl ?_
 refine o_mv rfl rfl ?_
 refine o_callM rfl (cphits_ok l al cl room) hf5 (fun w hw => (rd_base (i := 0) rfl hl) w hw) rfl (fun _ _ _ _ ha hA => SlO.agree ha hA) ?_
 rintro ⟨a3, c4⟩ S1
 refine o_know (fun w hw => own_len (i := 0) (T := tInt) hw rfl) (fun hlr5 => ?_)
 refine o_mv rfl rfl ?_
 refine o_ex rfl rfl rfl ?_
 refine o_ex rfl rfl rfl ?_
 refine o_alloc ze22 rfl (fun B6 => ?_)
 refine o_store (i := 0) (v := .slice a3 (Cmp.hits l room).length c4) (cs' := [.slice a3 (Cmp.hits l room).length c4]) rfl rfl rfl sz22 rfl rfl rfl ?_
 refine o_as rfl rfl ?_
 refine o_nil (q_then (c_seq (c_seq (c_region ?_))))
 refine o_mv rfl rfl ?_
 refine o_p (p_ne rfl rfl) ?_
 refine o_nil (q_then ?_)
 refine c_cond rfl (fun hc7 => ?_) (fun hc7 => ?_)
 ·simp only [bne_iff_ne, ne_eq] at hc7
  refine c_seq (c_region ?_)
  refine o_mv rfl rfl ?_
  refine o_as rfl rfl ?_
  refine o_as rfl rfl ?_
  refine o_nil (q_then (c_ret ?_))
  refine q_then_ret ?_
  have hr0 : ([] : List Int) = (Cmp.rank l room) := by
   first | rfl | exact (Cmp.rank_bad (by assumption)).symm | exact hck.symm | (rw [Cmp.rank_ok hck, hI.2, show k = 5 by omega])
  refine q_endM (p := (none, 0)) (fun _ => False) (rt2 rfl (r_tmp rfl) (r_tmp rfl)) (i := 2) rfl ?_ ?_ ?_
  ·exact (by have hcc := congrArg (fun (y0 : List Int) => (.tuple #[.slice none y0.length 0, Vi (Cmp.check l room)] : Value)) hr0; exact hcc)
  ·intro w hw b hb; exact hb.elim
  ·intro w hw; exact Eq.mp (congrArg (fun y => SlO tInt _ w none 0 y) hr0) (SlO.nil tInt w)
 ·simp only [bne_eq_false_iff_eq] at hc7
  have hck := hc7
  have hok := Cmp.chk_ok.1 hc7
  have hl5 := Cmp.hits_len hc7
  refine c_skip (q_then (c_seq (c_region ?_)))
  refine o_as rfl rfl ?_
  refine o_nil (q_then (c_seq (c_seq (c_region ?_))))
  refine o_p (p_load (i := 0) (v := .slice a3 (Cmp.hits l room).length c4) rfl rfl sh22 rfl) ?_
  refine o_p (p_len_slice rfl rfl Tryz.underlying22) ?_
  refine o_mv rfl rfl ?_
  refine o_nil (q_then (c_block ?_))
  refine c_ownNil tInt ?_
  refine c_loop (St := List Int × Option Addr × Nat × (Nat → Prop) × Nat)
   (fun ⟨out, aout, cout, Sout, k⟩ => [(6, .pointer (some ⟨B6, 0, none⟩)), (8, .slice aout out.length cout), (20, Vi ((Cmp.hits l room).length : Int)), (21, Vi (k : Int))])
   (fun ⟨out, aout, cout, Sout, k⟩ => [own tInt Sout aout cout out, box B6 [.slice a3 (Cmp.hits l room).length c4] 22, own tInt S1 a3 c4 (Cmp.hits l room), base w0])
   (fun ⟨out, aout, cout, Sout, k⟩ => k ≤ 5 ∧ out = (List.range k).map (fun i : Nat => (i : Int) + 1))
   (fun ⟨out, aout, cout, Sout, k⟩ => 5 - k)
   ([], none, 0, (fun _ => False), 0) ?_ (sr (sr (sr (sr (Sub.nil _))))) (fun _ hw => hw) ?_
  ·exact ⟨Nat.zero_le _, rfl⟩
  rintro ⟨out, aout, cout, Sout, k⟩ hI K hK9
  have hol : out.length = k := by rw [hI.2]; simp
  show SC _ _ Tryz.prog 34 w0 _ _ [(6, .pointer (some ⟨B6, 0, none⟩)), (8, .slice aout out.length cout), (20, Vi ((Cmp.hits l room).length : Int)), (21, Vi (k : Int))] [own tInt Sout aout cout out, box B6 [.slice a3 (Cmp.hits l room).length c4] 22, own tInt S1 a3 c4 (Cmp.hits l room), base w0]
  refine c_seq (c_region ?_)
  refine o_p (p_lt rfl rfl) ?_
  refine o_nil (q_then (c_seq ?_))
  refine c_cond rfl (fun hc10 => ?_) (fun hc10 => ?_)
  ·simp only [decide_eq_true_eq] at hc10
   refine c_skip (q_then (c_seq (c_block (c_seq (c_region ?_)))))
   refine o_mv rfl rfl ?_
   refine o_as rfl rfl ?_
   refine o_nil (q_then (c_region ?_))
   refine o_mv rfl rfl ?_
   refine o_mv rfl rfl ?_
   refine o_p (p_addb rfl rfl (by omega)) ?_
   refine o_buildSlice (m := 1) (T := tInt) (L := [((k : Int) + 1)]) (vs := [Vi ((k : Int) + 1)]) rfl rfl rfl rfl Tryz.underlying22 sz3 (by decide) ze3 rfl (by decide) rfl (fun S11 a12 => ?_)
   refine o_append (i := 1) (L := out) (M := [((k : Int) + 1)]) (T := tInt) rfl rfl rfl (rd_own (i := 0) rfl) Tryz.underlying22 Tryz.underlying22 (by intro k h; cases h) el3 (by intro z; simp [tInt, one1]) (by decide) (by first | omega | (simp only [List.length_cons, List.length_nil]; omega) | (simp only [List.length_append, List.length_cons, List.length_nil, List.length_take, List.length_drop]; omega)) rfl (fun a14 c15 S16 => ?_)
   refine o_as rfl rfl ?_
   refine o_nil ?_
   refine q_block_normal (q_then ?_)
   refine c_region ?_
   refine o_p (p_addb rfl rfl (by omega)) ?_
   refine o_mv rfl rfl ?_
   refine o_nil ?_
   refine q_round hK9 ((out ++ [((k : Int) + 1)]), a14, c15, S16, k + 1) ?_ ?_ ?_ ?_
   ·clear hK9
    exact ⟨by omega, (congrArg (fun z => z ++ [_]) hI.2).trans (Cmp.map_next _ k)⟩
   ·(try dsimp only); omega
   ·exact sr (sr (sr (sr (Sub.nil _))))
   ·exact pk [1, 2, 3, 4]
  ·simp only [decide_eq_false_iff_not, Int.not_lt] at hc10
   have hside := And.intro (Cmp.side (q := Cmp.hits l room) hI.2 (by omega)) (show (Cmp.hits l room).length ≤ 5 by omega)
   refine c_exit ?_
   refine q_then_exit (q_then_exit (q_block_exit (q_then ?_)))
   refine c_seq (c_region ?_)
   refine o_mv rfl rfl ?_
   refine o_p (p_makeFunc (vs := [.pointer (some ⟨B6, 0, none⟩)]) rfl) ?_
   refine o_callX (pre := [own tInt Sout aout cout out]) (R := [box B6 [.slice a3 (Cmp.hits l room).length c4] 22, own tInt S1 a3 c4 (Cmp.hits l room), base w0]) rfl (sortStable_ok out aout cout Sout B6 (Cmp.hits l room) a3 c4 (by first | assumption | omega) (by first | assumption | exact hside)) hf16 rfl (fun w hw => ⟨(rdX (i := 2) (js := [0]) rfl (by decide) rfl (fun _ hA => SlO.toR hA)) w hw, boxX (i := 1) (js := [0]) rfl (by decide) rfl w hw⟩) rfl ?_
   rintro ⟨⟩
   refine o_asH (H' := [own tInt Sout aout cout (St.isort (Cmp.cmp (Cmp.hits l room)) out), box B6 [.slice a3 (Cmp.hits l room).length c4] 22, own tInt S1 a3 c4 (Cmp.hits l room), base w0]) rfl ?_
   refine o_cast (F' := [(8, .slice aout (St.isort (Cmp.cmp (Cmp.hits l room)) out).length cout)]) (H := [own tInt Sout aout cout (St.isort (Cmp.cmp (Cmp.hits l room)) out), box B6 [.slice a3 (Cmp.hits l room).length c4] 22, own tInt S1 a3 c4 (Cmp.hits l room), base w0]) (H' := [own tInt Sout aout cout (St.isort (Cmp.cmp (Cmp.hits l room)) out), box B6 [.slice a3 (Cmp.hits l room).length c4] 22, own tInt S1 a3 c4 (Cmp.hits l room), base w0]) (Sub.cons (by simp only [List.length_set, List.length_reverse, St.isort_len]; rfl) (Sub.nil _)) (by rfl) ?_
   refine o_nil (q_then (c_seq (c_region ?_)))
   refine o_mv rfl rfl ?_
   refine o_as rfl rfl ?_
   refine o_as rfl rfl ?_
   refine o_nil (q_then (c_ret ?_))
   have hr0 : ((St.isort (Cmp.cmp (Cmp.hits l room)) out) : List Int) = (Cmp.rank l room) := by
    first | rfl | exact (Cmp.rank_bad (by assumption)).symm | exact hck.symm | (rw [Cmp.rank_ok hck, hI.2, show k = 5 by omega])
   have hr1 : (0 : Int) = (Cmp.check l room) := by
    first | rfl | exact (Cmp.rank_bad (by assumption)).symm | exact hck.symm | (rw [Cmp.rank_ok hck, hI.2, show k = 5 by omega])
   refine q_endM (p := (aout, cout)) Sout (rt2 rfl (r_tmp rfl) (r_tmp rfl)) (i := 3) rfl ?_ ?_ ?_
   ·exact (by have hcc := congr (congrArg (fun (y0 : List Int) (y1 : Int) => (.tuple #[.slice aout y0.length cout, .int .i64 y1] : Value)) hr0) hr1; exact hcc)
   ·exact fun w hw => hw.above (i := 3) (j := 0) (by decide) rfl rfl
   ·intro w hw; exact Eq.mp (congrArg (fun y => SlO tInt _ w aout cout y) hr0) ((hw.at (i := 0) rfl).here)
end Go.Proofs.YtfncgfcehkalnaaGreat

/- The walks, printed by a program from the translation and a specification. -/
namespace Go.Proofs.YtfncgfcehkalnaaGreat
open Go.Sx Go.RowKit
set_option maxHeartbeats 8000000 in
set_option maxRecDepth 100000 in
theorem belady_ok  : FnM Tryz.prog 28 [] (fun _ => True) (Option Addr × Nat) (fun p => .slice p.1 ([1, 2, 3, 4, 1, 2, 5, 1, 2, 3, 4, 5]).length p.2) (fun p S w => SlO tInt S w p.1 p.2 ([1, 2, 3, 4, 1, 2, 5, 1, 2, 3, 4, 5])) := by
 refine fnM (nt := 2) (F0 := []) Tryz.func28 rfl Tryz.ntmps28 rfl rfl (fun w0 hpre => ?_)
 refine c_seq (c_region ?_)
 refine o_as rfl rfl ?_
 refine o_nil (q_then (c_seq (c_region ?_)))
 refine o_buildSlice (m := 12) (T := tInt) (L := [1, 2, 3, 4, 1, 2, 5, 1, 2, 3, 4, 5]) (vs := [Vi 1, Vi 2, Vi 3, Vi 4, Vi 1, Vi 2, Vi 5, Vi 1, Vi 2, Vi 3, Vi 4, Vi 5]) rfl rfl rfl rfl Tryz.underlying22 sz3 (by decide) ze3 rfl (by decide) rfl (fun S1 a2 => ?_)
 refine o_as rfl rfl ?_
 refine o_nil (q_then (c_ret ?_))
 refine q_endM (p := (a2, [1, 2, 3, 4, 1, 2, 5, 1, 2, 3, 4, 5].length)) S1 (rt1 rfl (r_tmp rfl)) (i := 1) rfl ?_ ?_ ?_
 ·exact rfl
 ·exact fun w hw => hw.above (i := 1) (j := 0) (by decide) rfl rfl
 ·intro w hw; exact (hw.at (i := 0) rfl).here

set_option maxHeartbeats 8000000 in
set_option maxRecDepth 100000 in
theorem contestBegun_ok  : Fn0 Tryz.prog 11 [] (fun _ => True) (.bool true) := by
 refine fn0 (nt := 84) (F0 := []) Tryz.func11 rfl Tryz.ntmps11 rfl rfl (fun w0 hpre => ?_)
 have hh5 : (Cmp.hits [1, 2, 3, 4, 1, 2, 5, 1, 2, 3, 4, 5] 3).length = 5 := by decide +kernel
 have hr5 : (Cmp.rank [1, 2, 3, 4, 1, 2, 5, 1, 2, 3, 4, 5] 3).length = 5 := by decide +kernel
 refine c_seq (c_region ?_)
 refine o_as rfl rfl ?_
 refine o_nil (q_then (c_seq (c_region ?_)))
 refine o_callM rfl (belady_ok ) hf28 (fun _ _ => trivial) rfl (fun _ _ _ _ ha hA => SlO.agree ha hA) ?_
 rintro ⟨a3, c4⟩ S1
 refine o_know (fun w hw => own_len (i := 0) (T := tInt) hw rfl) (fun hlr5 => ?_)
 refine o_callM rfl (cphits_ok ([1, 2, 3, 4, 1, 2, 5, 1, 2, 3, 4, 5]) a3 c4 (3 : Int)) hf5 (fun w hw => (rd_own (i := 0) rfl) w hw) rfl (fun _ _ _ _ ha hA => SlO.agree ha hA) ?_
 rintro ⟨a8, c9⟩ S6
 refine o_know (fun w hw => own_len (i := 0) (T := tInt) hw rfl) (fun hlr10 => ?_)
 refine o_mv rfl rfl ?_
 refine o_ex rfl rfl rfl ?_
 refine o_ex rfl rfl rfl ?_
 refine o_as rfl rfl ?_
 refine o_as rfl rfl ?_
 refine o_nil (q_then (c_seq (c_region ?_)))
 refine o_callM rfl (belady_ok ) hf28 (fun _ _ => trivial) rfl (fun _ _ _ _ ha hA => SlO.agree ha hA) ?_
 rintro ⟨a13, c14⟩ S11
 refine o_know (fun w hw => own_len (i := 0) (T := tInt) hw rfl) (fun hlr15 => ?_)
 refine o_callM rfl (cprank_ok ([1, 2, 3, 4, 1, 2, 5, 1, 2, 3, 4, 5]) a13 c14 (3 : Int)) hf6 (fun w hw => (rd_own (i := 0) rfl) w hw) rfl (fun _ _ _ _ ha hA => SlO.agree ha hA) ?_
 rintro ⟨a18, c19⟩ S16
 refine o_know (fun w hw => own_len (i := 0) (T := tInt) hw rfl) (fun hlr20 => ?_)
 refine o_mv rfl rfl ?_
 refine o_ex rfl rfl rfl ?_
 refine o_ex rfl rfl rfl ?_
 refine o_as rfl rfl ?_
 refine o_as rfl rfl ?_
 refine o_nil (q_then (c_seq (c_region ?_)))
 refine o_callM rfl (belady_ok ) hf28 (fun _ _ => trivial) rfl (fun _ _ _ _ ha hA => SlO.agree ha hA) ?_
 rintro ⟨a23, c24⟩ S21
 refine o_know (fun w hw => own_len (i := 0) (T := tInt) hw rfl) (fun hlr25 => ?_)
 refine o_call0 (v := .tuple #[Vi (Cmp.room ([1, 2, 3, 4, 1, 2, 5, 1, 2, 3, 4, 5]) (3 : Int) (1 : Int)), Vi (Cmp.roomErr ([1, 2, 3, 4, 1, 2, 5, 1, 2, 3, 4, 5]) (3 : Int) (1 : Int))]) rfl (cproom_ok ([1, 2, 3, 4, 1, 2, 5, 1, 2, 3, 4, 5]) a23 c24 (3 : Int) (1 : Int)) hf7 (fun w hw => (rd_own (i := 0) rfl) w hw) rfl ?_
 refine o_mv rfl rfl ?_
 refine o_ex rfl rfl rfl ?_
 refine o_ex rfl rfl rfl ?_
 refine o_as rfl rfl ?_
 refine o_as rfl rfl ?_
 refine o_nil (q_then (c_seq (c_region ?_)))
 refine o_callM rfl (cpcurve_ok [] none 0 (6 : Int)) hf13 (fun w hw => rd_nil w hw) rfl (fun _ _ _ _ ha hA => SlO.agree ha hA) ?_
 rintro ⟨a28, c29⟩ S26
 refine o_know (fun w hw => own_len (i := 0) (T := tInt) hw rfl) (fun hlr30 => ?_)
 refine o_mv rfl rfl ?_
 refine o_ex rfl rfl rfl ?_
 refine o_ex rfl rfl rfl ?_
 refine o_as rfl rfl ?_
 refine o_as rfl rfl ?_
 refine o_nil (q_then (c_seq (c_region ?_)))
 refine o_callM rfl (cphits_ok [] none 0 (1 : Int)) hf5 (fun w hw => rd_nil w hw) rfl (fun _ _ _ _ ha hA => SlO.agree ha hA) ?_
 rintro ⟨a33, c34⟩ S31
 refine o_know (fun w hw => own_len (i := 0) (T := tInt) hw rfl) (fun hlr35 => ?_)
 refine o_mv rfl rfl ?_
 refine o_ex rfl rfl rfl ?_
 refine o_ex rfl rfl rfl ?_
 refine o_as rfl rfl ?_
 refine o_as rfl rfl ?_
 refine o_nil (q_then (c_seq (c_region ?_)))
 refine o_mv rfl rfl ?_
 refine o_p (p_len_slice rfl rfl Tryz.underlying22) ?_
 refine o_p (p_eq rfl rfl) ?_
 refine o_mv rfl rfl ?_
 refine o_and (p := 42) 5 (((Cmp.hits ([1, 2, 3, 4, 1, 2, 5, 1, 2, 3, 4, 5]) (3 : Int)).getD 0 default) == 2) ?_ ?_ ?_
 ·intro hb36 hk
  simp only [beq_iff_eq] at hb36
  refine o_unguard 37 rfl rfl ?_
  refine o_mv rfl rfl ?_
  refine o_unguard 37 rfl rfl ?_
  refine o_p (p_indexAddr (L := (Cmp.hits ([1, 2, 3, 4, 1, 2, 5, 1, 2, 3, 4, 5]) (3 : Int))) (T := tInt) (i := 0) rfl rfl (rd_own (i := 5) rfl) Tryz.underlying22 sz3 (by first | omega | decide +kernel) (by first | omega | decide +kernel)) ?_
  refine o_unguard 37 rfl rfl ?_
  refine o_p (p_loadE1 (i := 0) (T := tInt) (L := (Cmp.hits ([1, 2, 3, 4, 1, 2, 5, 1, 2, 3, 4, 5]) (3 : Int))) (v := Vi ((Cmp.hits ([1, 2, 3, 4, 1, 2, 5, 1, 2, 3, 4, 5]) (3 : Int)).getD 0 default)) rfl (rd_own (i := 5) rfl) (by first | assumption | omega | decide +kernel) sh3 (congrArg tInt.enc (getd_at (by first | assumption | omega | decide +kernel) default))) ?_
  refine o_unguard 37 rfl rfl ?_
  refine o_p (p_eq rfl rfl) ?_
  refine o_pt rfl rfl rfl ?_
  exact o_sub (sr (Sub.skip rfl (Sub.skip rfl (Sub.skip rfl (Sub.skip rfl (Sub.skip rfl (Sub.skip rfl (Sub.refl _)))))))) hk
 ·intro hb36 hk
  refine o_guard_no rfl 37 rfl rfl rfl rfl rfl ?_
  refine o_guard_no rfl 37 rfl rfl rfl rfl rfl ?_
  refine o_guard_no rfl 37 rfl rfl rfl rfl rfl ?_
  refine o_guard_no rfl 37 rfl rfl rfl rfl rfl ?_
  refine o_pf rfl rfl rfl ?_
  exact o_sub (sr (Sub.skip rfl (Sub.skip rfl (Sub.skip rfl (Sub.skip rfl (Sub.skip rfl (Sub.skip rfl (Sub.refl _)))))))) hk
 refine o_mv rfl rfl ?_
 refine o_and (p := 48) 5 (((Cmp.hits ([1, 2, 3, 4, 1, 2, 5, 1, 2, 3, 4, 5]) (3 : Int)).getD 4 default) == 5) ?_ ?_ ?_
 ·intro hb37 hk
  simp only [Bool.and_eq_true, beq_iff_eq] at hb37
  refine o_unguard 43 rfl rfl ?_
  refine o_mv rfl rfl ?_
  refine o_unguard 43 rfl rfl ?_
  refine o_p (p_indexAddr (L := (Cmp.hits ([1, 2, 3, 4, 1, 2, 5, 1, 2, 3, 4, 5]) (3 : Int))) (T := tInt) (i := 4) rfl rfl (rd_own (i := 5) rfl) Tryz.underlying22 sz3 (by first | omega | decide +kernel) (by first | omega | decide +kernel)) ?_
  refine o_unguard 43 rfl rfl ?_
  refine o_p (p_loadE1 (i := 4) (T := tInt) (L := (Cmp.hits ([1, 2, 3, 4, 1, 2, 5, 1, 2, 3, 4, 5]) (3 : Int))) (v := Vi ((Cmp.hits ([1, 2, 3, 4, 1, 2, 5, 1, 2, 3, 4, 5]) (3 : Int)).getD 4 default)) rfl (rd_own (i := 5) rfl) (by first | assumption | omega | decide +kernel) sh3 (congrArg tInt.enc (getd_at (by first | assumption | omega | decide +kernel) default))) ?_
  refine o_unguard 43 rfl rfl ?_
  refine o_p (p_eq rfl rfl) ?_
  refine o_pt rfl rfl rfl ?_
  exact o_sub (sr (Sub.skip rfl (Sub.skip rfl (Sub.skip rfl (Sub.skip rfl (Sub.skip rfl (Sub.skip rfl (Sub.refl _)))))))) hk
 ·intro hb37 hk
  refine o_guard_no rfl 43 rfl rfl rfl rfl rfl ?_
  refine o_guard_no rfl 43 rfl rfl rfl rfl rfl ?_
  refine o_guard_no rfl 43 rfl rfl rfl rfl rfl ?_
  refine o_guard_no rfl 43 rfl rfl rfl rfl rfl ?_
  refine o_pf rfl rfl rfl ?_
  exact o_sub (sr (Sub.skip rfl (Sub.skip rfl (Sub.skip rfl (Sub.skip rfl (Sub.skip rfl (Sub.skip rfl (Sub.refl _)))))))) hk
 refine o_mv rfl rfl ?_
 refine o_and (p := 52) 3 ((Cmp.check ([1, 2, 3, 4, 1, 2, 5, 1, 2, 3, 4, 5]) (3 : Int)) == 0) ?_ ?_ ?_
 ·intro hb38 hk
  simp only [Bool.and_eq_true, beq_iff_eq] at hb38
  refine o_unguard 49 rfl rfl ?_
  refine o_mv rfl rfl ?_
  refine o_unguard 49 rfl rfl ?_
  refine o_p (p_eq rfl rfl) ?_
  refine o_pt rfl rfl rfl ?_
  exact o_sub (sr (Sub.skip rfl (Sub.skip rfl (Sub.skip rfl (Sub.skip rfl (Sub.refl _)))))) hk
 ·intro hb38 hk
  refine o_guard_no rfl 49 rfl rfl rfl rfl rfl ?_
  refine o_guard_no rfl 49 rfl rfl rfl rfl rfl ?_
  refine o_pf rfl rfl rfl ?_
  exact o_sub (sr (Sub.skip rfl (Sub.skip rfl (Sub.skip rfl (Sub.skip rfl (Sub.refl _)))))) hk
 refine o_mv rfl rfl ?_
 refine o_and (p := 57) 4 (((Cmp.rank ([1, 2, 3, 4, 1, 2, 5, 1, 2, 3, 4, 5]) (3 : Int)).length : Int) == 5) ?_ ?_ ?_
 ·intro hb39 hk
  simp only [Bool.and_eq_true, beq_iff_eq] at hb39
  refine o_unguard 53 rfl rfl ?_
  refine o_mv rfl rfl ?_
  refine o_unguard 53 rfl rfl ?_
  refine o_p (p_len_slice rfl rfl Tryz.underlying22) ?_
  refine o_unguard 53 rfl rfl ?_
  refine o_p (p_eq rfl rfl) ?_
  refine o_pt rfl rfl rfl ?_
  exact o_sub (sr (Sub.skip rfl (Sub.skip rfl (Sub.skip rfl (Sub.skip rfl (Sub.skip rfl (Sub.refl _))))))) hk
 ·intro hb39 hk
  refine o_guard_no rfl 53 rfl rfl rfl rfl rfl ?_
  refine o_guard_no rfl 53 rfl rfl rfl rfl rfl ?_
  refine o_guard_no rfl 53 rfl rfl rfl rfl rfl ?_
  refine o_pf rfl rfl rfl ?_
  exact o_sub (sr (Sub.skip rfl (Sub.skip rfl (Sub.skip rfl (Sub.skip rfl (Sub.skip rfl (Sub.refl _))))))) hk
 refine o_mv rfl rfl ?_
 refine o_and (p := 63) 5 (((Cmp.rank ([1, 2, 3, 4, 1, 2, 5, 1, 2, 3, 4, 5]) (3 : Int)).getD 0 default) == 5) ?_ ?_ ?_
 ·intro hb40 hk
  simp only [Bool.and_eq_true, beq_iff_eq] at hb40
  refine o_unguard 58 rfl rfl ?_
  refine o_mv rfl rfl ?_
  refine o_unguard 58 rfl rfl ?_
  refine o_p (p_indexAddr (L := (Cmp.rank ([1, 2, 3, 4, 1, 2, 5, 1, 2, 3, 4, 5]) (3 : Int))) (T := tInt) (i := 0) rfl rfl (rd_own (i := 3) rfl) Tryz.underlying22 sz3 (by first | omega | decide +kernel) (by first | omega | decide +kernel)) ?_
  refine o_unguard 58 rfl rfl ?_
  refine o_p (p_loadE1 (i := 0) (T := tInt) (L := (Cmp.rank ([1, 2, 3, 4, 1, 2, 5, 1, 2, 3, 4, 5]) (3 : Int))) (v := Vi ((Cmp.rank ([1, 2, 3, 4, 1, 2, 5, 1, 2, 3, 4, 5]) (3 : Int)).getD 0 default)) rfl (rd_own (i := 3) rfl) (by first | assumption | omega | decide +kernel) sh3 (congrArg tInt.enc (getd_at (by first | assumption | omega | decide +kernel) default))) ?_
  refine o_unguard 58 rfl rfl ?_
  refine o_p (p_eq rfl rfl) ?_
  refine o_pt rfl rfl rfl ?_
  exact o_sub (sr (Sub.skip rfl (Sub.skip rfl (Sub.skip rfl (Sub.skip rfl (Sub.skip rfl (Sub.skip rfl (Sub.refl _)))))))) hk
 ·intro hb40 hk
  refine o_guard_no rfl 58 rfl rfl rfl rfl rfl ?_
  refine o_guard_no rfl 58 rfl rfl rfl rfl rfl ?_
  refine o_guard_no rfl 58 rfl rfl rfl rfl rfl ?_
  refine o_guard_no rfl 58 rfl rfl rfl rfl rfl ?_
  refine o_pf rfl rfl rfl ?_
  exact o_sub (sr (Sub.skip rfl (Sub.skip rfl (Sub.skip rfl (Sub.skip rfl (Sub.skip rfl (Sub.skip rfl (Sub.refl _)))))))) hk
 refine o_mv rfl rfl ?_
 refine o_and (p := 67) 3 ((Cmp.check ([1, 2, 3, 4, 1, 2, 5, 1, 2, 3, 4, 5]) (3 : Int)) == 0) ?_ ?_ ?_
 ·intro hb41 hk
  simp only [Bool.and_eq_true, beq_iff_eq] at hb41
  refine o_unguard 64 rfl rfl ?_
  refine o_mv rfl rfl ?_
  refine o_unguard 64 rfl rfl ?_
  refine o_p (p_eq rfl rfl) ?_
  refine o_pt rfl rfl rfl ?_
  exact o_sub (sr (Sub.skip rfl (Sub.skip rfl (Sub.skip rfl (Sub.skip rfl (Sub.refl _)))))) hk
 ·intro hb41 hk
  refine o_guard_no rfl 64 rfl rfl rfl rfl rfl ?_
  refine o_guard_no rfl 64 rfl rfl rfl rfl rfl ?_
  refine o_pf rfl rfl rfl ?_
  exact o_sub (sr (Sub.skip rfl (Sub.skip rfl (Sub.skip rfl (Sub.skip rfl (Sub.refl _)))))) hk
 refine o_mv rfl rfl ?_
 refine o_and (p := 71) 3 ((Cmp.room ([1, 2, 3, 4, 1, 2, 5, 1, 2, 3, 4, 5]) (3 : Int) (1 : Int)) == 5) ?_ ?_ ?_
 ·intro hb42 hk
  simp only [Bool.and_eq_true, beq_iff_eq] at hb42
  refine o_unguard 68 rfl rfl ?_
  refine o_mv rfl rfl ?_
  refine o_unguard 68 rfl rfl ?_
  refine o_p (p_eq rfl rfl) ?_
  refine o_pt rfl rfl rfl ?_
  exact o_sub (sr (Sub.skip rfl (Sub.skip rfl (Sub.skip rfl (Sub.skip rfl (Sub.refl _)))))) hk
 ·intro hb42 hk
  refine o_guard_no rfl 68 rfl rfl rfl rfl rfl ?_
  refine o_guard_no rfl 68 rfl rfl rfl rfl rfl ?_
  refine o_pf rfl rfl rfl ?_
  exact o_sub (sr (Sub.skip rfl (Sub.skip rfl (Sub.skip rfl (Sub.skip rfl (Sub.refl _)))))) hk
 refine o_mv rfl rfl ?_
 refine o_and (p := 75) 3 ((Cmp.roomErr ([1, 2, 3, 4, 1, 2, 5, 1, 2, 3, 4, 5]) (3 : Int) (1 : Int)) == 0) ?_ ?_ ?_
 ·intro hb43 hk
  simp only [Bool.and_eq_true, beq_iff_eq] at hb43
  refine o_unguard 72 rfl rfl ?_
  refine o_mv rfl rfl ?_
  refine o_unguard 72 rfl rfl ?_
  refine o_p (p_eq rfl rfl) ?_
  refine o_pt rfl rfl rfl ?_
  exact o_sub (sr (Sub.skip rfl (Sub.skip rfl (Sub.skip rfl (Sub.skip rfl (Sub.refl _)))))) hk
 ·intro hb43 hk
  refine o_guard_no rfl 72 rfl rfl rfl rfl rfl ?_
  refine o_guard_no rfl 72 rfl rfl rfl rfl rfl ?_
  refine o_pf rfl rfl rfl ?_
  exact o_sub (sr (Sub.skip rfl (Sub.skip rfl (Sub.skip rfl (Sub.skip rfl (Sub.refl _)))))) hk
 refine o_mv rfl rfl ?_
 refine o_and (p := 79) 3 ((Cmp.curveErr [] (6 : Int)) == 7) ?_ ?_ ?_
 ·intro hb44 hk
  simp only [Bool.and_eq_true, beq_iff_eq] at hb44
  refine o_unguard 76 rfl rfl ?_
  refine o_mv rfl rfl ?_
  refine o_unguard 76 rfl rfl ?_
  refine o_p (p_eq rfl rfl) ?_
  refine o_pt rfl rfl rfl ?_
  exact o_sub (sr (Sub.skip rfl (Sub.skip rfl (Sub.skip rfl (Sub.skip rfl (Sub.refl _)))))) hk
 ·intro hb44 hk
  refine o_guard_no rfl 76 rfl rfl rfl rfl rfl ?_
  refine o_guard_no rfl 76 rfl rfl rfl rfl rfl ?_
  refine o_pf rfl rfl rfl ?_
  exact o_sub (sr (Sub.skip rfl (Sub.skip rfl (Sub.skip rfl (Sub.skip rfl (Sub.refl _)))))) hk
 refine o_mv rfl rfl ?_
 refine o_and (p := 83) 3 ((Cmp.check [] (1 : Int)) == 3) ?_ ?_ ?_
 ·intro hb45 hk
  simp only [Bool.and_eq_true, beq_iff_eq] at hb45
  refine o_unguard 80 rfl rfl ?_
  refine o_mv rfl rfl ?_
  refine o_unguard 80 rfl rfl ?_
  refine o_p (p_eq rfl rfl) ?_
  refine o_pt rfl rfl rfl ?_
  exact o_sub (sr (Sub.skip rfl (Sub.skip rfl (Sub.skip rfl (Sub.skip rfl (Sub.refl _)))))) hk
 ·intro hb45 hk
  refine o_guard_no rfl 80 rfl rfl rfl rfl rfl ?_
  refine o_guard_no rfl 80 rfl rfl rfl rfl rfl ?_
  refine o_pf rfl rfl rfl ?_
  exact o_sub (sr (Sub.skip rfl (Sub.skip rfl (Sub.skip rfl (Sub.skip rfl (Sub.refl _)))))) hk
 refine o_as rfl rfl ?_
 refine o_nil (q_then (c_ret ?_))
 have hr0 : ((((((((((((((Cmp.hits ([1, 2, 3, 4, 1, 2, 5, 1, 2, 3, 4, 5]) (3 : Int)).length : Int) == 5) && (((Cmp.hits ([1, 2, 3, 4, 1, 2, 5, 1, 2, 3, 4, 5]) (3 : Int)).getD 0 default) == 2)) && (((Cmp.hits ([1, 2, 3, 4, 1, 2, 5, 1, 2, 3, 4, 5]) (3 : Int)).getD 4 default) == 5)) && ((Cmp.check ([1, 2, 3, 4, 1, 2, 5, 1, 2, 3, 4, 5]) (3 : Int)) == 0)) && (((Cmp.rank ([1, 2, 3, 4, 1, 2, 5, 1, 2, 3, 4, 5]) (3 : Int)).length : Int) == 5)) && (((Cmp.rank ([1, 2, 3, 4, 1, 2, 5, 1, 2, 3, 4, 5]) (3 : Int)).getD 0 default) == 5)) && ((Cmp.check ([1, 2, 3, 4, 1, 2, 5, 1, 2, 3, 4, 5]) (3 : Int)) == 0)) && ((Cmp.room ([1, 2, 3, 4, 1, 2, 5, 1, 2, 3, 4, 5]) (3 : Int) (1 : Int)) == 5)) && ((Cmp.roomErr ([1, 2, 3, 4, 1, 2, 5, 1, 2, 3, 4, 5]) (3 : Int) (1 : Int)) == 0)) && ((Cmp.curveErr [] (6 : Int)) == 7)) && ((Cmp.check [] (1 : Int)) == 3)) : Bool) = true := by
  first | rfl | decide +kernel
 refine q_end0 (v := .bool (((((((((((((Cmp.hits ([1, 2, 3, 4, 1, 2, 5, 1, 2, 3, 4, 5]) (3 : Int)).length : Int) == 5) && (((Cmp.hits ([1, 2, 3, 4, 1, 2, 5, 1, 2, 3, 4, 5]) (3 : Int)).getD 0 default) == 2)) && (((Cmp.hits ([1, 2, 3, 4, 1, 2, 5, 1, 2, 3, 4, 5]) (3 : Int)).getD 4 default) == 5)) && ((Cmp.check ([1, 2, 3, 4, 1, 2, 5, 1, 2, 3, 4, 5]) (3 : Int)) == 0)) && (((Cmp.rank ([1, 2, 3, 4, 1, 2, 5, 1, 2, 3, 4, 5]) (3 : Int)).length : Int) == 5)) && (((Cmp.rank ([1, 2, 3, 4, 1, 2, 5, 1, 2, 3, 4, 5]) (3 : Int)).getD 0 default) == 5)) && ((Cmp.check ([1, 2, 3, 4, 1, 2, 5, 1, 2, 3, 4, 5]) (3 : Int)) == 0)) && ((Cmp.room ([1, 2, 3, 4, 1, 2, 5, 1, 2, 3, 4, 5]) (3 : Int) (1 : Int)) == 5)) && ((Cmp.roomErr ([1, 2, 3, 4, 1, 2, 5, 1, 2, 3, 4, 5]) (3 : Int) (1 : Int)) == 0)) && ((Cmp.curveErr [] (6 : Int)) == 7)) && ((Cmp.check [] (1 : Int)) == 3))) (rt1 rfl (r_tmp rfl)) (i := 7) rfl ?_
 exact (by have hcc := congrArg (fun (y0 : Bool) => (.bool y0 : Value)) hr0; exact hcc)
end Go.Proofs.YtfncgfcehkalnaaGreat
