/- The walks, printed by a program from the translation and a specification. -/
import Derived.Test.YtgkihbbeimhmbaaGreatDoorTxF
import Derived.Test.YtgkihbbeimhmbaaGreatDoorOpLaw4M17
import Derived.Test.YtgkihbbeimhmbaaGreatDoorTxW1
import Derived.Test.YtgkihbbeimhmbaaGreatDoorTxW2
import Derived.Test.YtgkihbbeimhmbaaGreatDoorTxW3M2
namespace Go.Proofs.YtgkihbbeimhmbaaGreatDoor
open Go.Sx Go.RowKit
set_option maxHeartbeats 8000000 in
set_option maxRecDepth 100000 in
theorem back1_ok (l : List Int) (al : Option Addr) (cl : Nat) (Bs : Nat) : ItOk Tryz.prog 129 [.pointer (some ⟨Bs, 0, none⟩)] (fun e w => ((box Bs [.slice al l.length cl] 26).A w ∧ (outer w [e]).S Bs) ∧ SlR tInt (outer w [e]).S w al cl l) Unit (fun x k => [Vi ((l.length : Int) - 1 - (k : Int)), Vi (l.getD (l.length - 1 - k) 0)]) (fun x k => []) (l.length) := by
 refine fnIt (nt := 19) (F1 := [(1, .pointer (some ⟨Bs, 0, none⟩))]) Tryz.func129 rfl Tryz.ntmps129 rfl rfl ?_
 intro l_ φ ψ e0 w0 hpre hφ Y
 obtain ⟨hb_Bs, hl⟩ := hpre
 have hlhl := hl.2.1
 refine c_seq (c_region ?_)
 refine o_p (p_loadR (v := .slice al l.length cl) rfl (rbox_outer (i := 0) rfl hb_Bs) sh26 rfl) ?_
 refine o_p (p_len_slice rfl rfl Tryz.underlying26) ?_
 refine o_p (p_subb rfl rfl (by omega)) ?_
 refine o_as rfl rfl ?_
 refine o_nil (q_then (c_block ?_))
 refine c_loop (St := Int × Nat × Ent)
  (fun ⟨i, k, e⟩ => [(0, .func (.yield l_) #[] #[]), (1, .pointer (some ⟨Bs, 0, none⟩)), (3, Vi i)])
  (fun ⟨i, k, e⟩ => [outer w0 [e0], e])
  (fun ⟨i, k, e⟩ => k ≤ l.length ∧ i = (l.length : Int) - 1 - (k : Int) ∧ φ k e)
  (fun ⟨i, k, e⟩ => (i + 1).toNat)
  (((l.length : Int) - 1), 0, e0) ?_ (sr (sr (sr (Sub.nil _)))) (fun _ hw => hw) ?_
 ·exact ⟨Nat.zero_le _, by omega, hφ⟩
 rintro ⟨i, k, e⟩ hI K hK1
 have hk1 := hI.1
 have hk2 := hI.2.1
 show SC _ _ Tryz.prog 19 w0 _ _ [(0, .func (.yield l_) #[] #[]), (1, .pointer (some ⟨Bs, 0, none⟩)), (3, Vi i)] [outer w0 [e0], e]
 refine c_seq (c_seq (c_region ?_))
 refine o_mv rfl rfl ?_
 refine o_p (p_ge rfl rfl) ?_
 refine o_nil (q_then ?_)
 refine c_cond rfl (fun hc2 => ?_) (fun hc2 => ?_)
 ·simp only [decide_eq_true_eq] at hc2
  refine c_skip (q_then (c_seq (c_block (c_seq ?_))))
  refine c_regionY ?_
  refine o_mv rfl rfl ?_
  refine o_mv rfl rfl ?_
  refine o_p (p_loadR (v := .slice al l.length cl) rfl (rbox_outer (i := 0) rfl hb_Bs) sh26 rfl) ?_
  refine o_mv rfl rfl ?_
  refine o_p (p_indexAddr (L := l) (T := tInt) (i := i) rfl rfl (rd_outer (i := 0) rfl hl) Tryz.underlying26 sz3 (by omega) (by omega)) ?_
  refine o_p (p_loadE1 (i := i.toNat) (T := tInt) (L := l) (v := Vi (l[i.toNat])) rfl (rd_outer (i := 0) rfl hl) (by first | assumption | omega) sh3 rfl) ?_
  have hv : ([Vi i, Vi (l[i.toNat])] : List Value) = [Vi ((l.length : Int) - 1 - (k : Int)), Vi (l.getD (l.length - 1 - k) 0)] := Opt.back_vals hI.2.1 (by omega) (by omega)
  refine o_yield (l := l_) (vs := [Vi i, Vi (l[i.toNat])]) (φ := φ (k + 1)) (ψ := ψ) rfl rfl (fun W hW => by rw [hv]; exact Y () k e W (by omega) hI.2.2 hW) rfl (fun e_3 he4 => ?_) (fun e_3 he4 => ?_)
  ·have hend := he4
   refine o_p (p_not (b := true) rfl) ?_
   refine o_nil (q_then ?_)
   refine c_false rfl ?_
   refine c_skip ?_
   refine q_block_normal (q_then ?_)
   refine c_region ?_
   refine o_mv rfl rfl ?_
   refine o_p (p_subb rfl rfl (by omega)) ?_
   refine o_as rfl rfl ?_
   refine o_nil ?_
   refine q_round hK1 ((i - 1), k + 1, e_3) ?_ ?_ ?_ ?_
   ·clear hK1
    exact ⟨by omega, by omega, hend⟩
   ·(try dsimp only); omega
   ·exact sr (sr (sr (Sub.nil _)))
   ·exact pk [0, 1]
  ·have hend := he4
   refine o_p (p_not (b := false) rfl) ?_
   refine o_nil (q_then ?_)
   refine c_true rfl ?_
   refine c_ret ?_
   refine q_block_ret (q_then_ret (q_then_ret (q_block_ret ?_)))
   refine q_endI (e := e_3) (rt0 rfl) ?_ (fun w hw => hw.pick (H' := [outer w0 [e0], e_3]) [0, 1] (by decide) rfl)
   first | exact .inr hend | exact .inl (it_fin hI.2.2 (by omega))
 ·simp only [decide_eq_false_iff_not, Int.not_le] at hc2
  refine c_exit ?_
  refine q_then_exit (q_then_exit (q_block_exit ?_))
  refine q_endI (e := e) (rt0 rfl) ?_ (fun w hw => hw.pick (H' := [outer w0 [e0], e]) [0, 1] (by decide) rfl)
  first | exact .inr hend | exact .inl (it_fin hI.2.2 (by omega))

set_option maxHeartbeats 8000000 in
set_option maxRecDepth 100000 in
theorem back_ok (l : List Int) (al : Option Addr) (cl : Nat) : FnX Tryz.prog 107 [.slice al l.length cl] [] (fun _ => True) (Nat) (fun p => .func (.func 129) #[] #[.pointer (some ⟨p, 0, none⟩)]) (fun p => [box p [.slice al l.length cl] 26]) := by
 refine fnX (nt := 4) (F0 := [(0, .slice al l.length cl)]) Tryz.func107 rfl Tryz.ntmps107 rfl rfl (fun w0 hpre => ?_)
 refine c_seq (c_region ?_)
 refine o_box (v := .slice al l.length cl) rfl rfl (fun B1 => ?_)
 refine o_as rfl rfl ?_
 refine o_nil (q_then (c_seq (c_region ?_)))
 refine o_p (p_makeFunc (vs := [.pointer (some ⟨B1, 0, none⟩)]) rfl) ?_
 refine o_as rfl rfl ?_
 refine o_nil (q_then (c_ret ?_))
 refine q_endX (p := (B1)) (rt1 rfl (r_tmp rfl)) rfl (fun w hw => ?_)
 exact hw.pick (H' := [outer w0 [], box B1 [.slice al l.length cl] 26]) [1, 0] (by decide) rfl

set_option maxHeartbeats 8000000 in
set_option maxRecDepth 100000 in
theorem nexts_ok (l : List Int) (al : Option Addr) (cl : Nat) (hy1 : l.length ≤ 1000) : FnM Tryz.prog 67 [.slice al l.length cl] (fun w => Rd tInt w al cl l) (Option Addr × Nat) (fun p => .slice p.1 (Opt.nexts l).length p.2) (fun p S w => SlO tInt S w p.1 p.2 (Opt.nexts l)) := by
 refine fnMR (nt := 35) (F0 := [(0, .slice al l.length cl)]) Tryz.func67 rfl Tryz.ntmps67 rfl rfl (fun w0 hpre => ?_)
 have hl := hpre
 have hlhl := hl.2.1
 refine c_seq (c_region ?_)
 refine o_box (v := .slice al l.length cl) rfl rfl (fun B1 => ?_)
 refine o_as rfl rfl ?_
 refine o_nil (q_then (c_seq (c_region ?_)))
 refine o_p (p_load (i := 0) (v := .slice al l.length cl) rfl rfl sh26 rfl) ?_
 refine o_p (p_len_slice rfl rfl Tryz.underlying26) ?_
 refine o_makeSlice (T := tInt) (m := (l.length : Int)) (z := 0) rfl rfl Tryz.underlying26 el3 ze3 rfl (by decide) (by omega) (by omega) rfl (fun S3 a2 => ?_)
 refine o_alloc ze26 rfl (fun B5 => ?_)
 refine o_store (i := 0) (v := .slice a2 (List.replicate ((l.length : Int).toNat) 0).length ((l.length : Int).toNat)) (cs' := [.slice a2 (List.replicate ((l.length : Int).toNat) 0).length ((l.length : Int).toNat)]) rfl rfl rfl sz26 rfl rfl rfl ?_
 refine o_nil (q_then (c_seq (c_region ?_)))
 refine o_makeMap (ν := Int) kInt (fun z : Int => Vi z) rfl (fun B6 => ?_)
 refine o_alloc ze113 rfl (fun B7 => ?_)
 refine o_store (i := 0) (v := .map (some B6)) (cs' := [.map (some B6)]) rfl rfl rfl sz113 rfl rfl rfl ?_
 refine o_nil (q_then (c_seq (c_seq (c_region ?_))))
 refine o_p (p_load (i := 4) (v := .slice al l.length cl) rfl rfl sh26 rfl) ?_
 refine o_callX (pre := []) (R := [box B7 [.map (some B6)] 113, mapE kInt (fun z : Int => Vi z) B6 ([]), box B5 [.slice a2 (List.replicate ((l.length : Int).toNat) 0).length ((l.length : Int).toNat)] 26, own tInt S3 a2 ((l.length : Int).toNat) (List.replicate ((l.length : Int).toNat) 0), box B1 [.slice al l.length cl] 26, base w0]) rfl (back_ok l al cl) hf107 rfl (fun _ _ => trivial) rfl ?_
 rintro B8
 refine o_asH (H' := [box B8 [.slice al l.length cl] 26, box B7 [.map (some B6)] 113, mapE kInt (fun z : Int => Vi z) B6 ([]), box B5 [.slice a2 (List.replicate ((l.length : Int).toNat) 0).length ((l.length : Int).toNat)] 26, own tInt S3 a2 ((l.length : Int).toNat) (List.replicate ((l.length : Int).toNat) 0), box B1 [.slice al l.length cl] 26, base w0]) rfl ?_
 refine o_nil (q_then (c_block ?_))
 refine c_rangeFunc (f := 129) (caps := [.pointer (some ⟨B8, 0, none⟩)]) (Pr := (fun e w => ((box B8 [.slice al l.length cl] 26).A w ∧ (outer w [e]).S B8) ∧ SlR tInt (outer w [e]).S w al cl l)) (X := Unit) (encs := (fun x k => [Vi ((l.length : Int) - 1 - (k : Int)), Vi (l.getD (l.length - 1 - k) 0)])) (E := (fun x k => [])) (N := l.length) rfl hf129 (back1_ok l al cl B8) (fun _ _ => rfl) (by decide) (St := List Int × Option Addr × Nat × (Nat → Prop) × List (Int × Int))
  (fun ⟨ol, aol, col, Sol, m⟩ => [mapE kInt (fun z : Int => Vi z) B6 m, box B5 [.slice aol ol.length col] 26, own tInt Sol aol col ol])
  (fun k ⟨ol, aol, col, Sol, m⟩ => Opt.NInv l ol m k)
  (fun c ⟨ol, aol, col, Sol, m⟩ => False)
  [box B8 [.slice al l.length cl] 26, box B7 [.map (some B6)] 113, box B1 [.slice al l.length cl] 26, base w0]
  ((List.replicate ((l.length : Int).toNat) 0), a2, (l.length : Int).toNat, S3, []) ?_ ?_ ?_ ?_ ?_ ?_
 ·exact Opt.NInv.start l
 ·exact fun w hw => hw.pick (H' := [mapE kInt (fun z : Int => Vi z) B6 ([]), box B5 [.slice a2 (List.replicate ((l.length : Int).toNat) 0).length ((l.length : Int).toNat)] 26, own tInt S3 a2 ((l.length : Int).toNat) (List.replicate ((l.length : Int).toNat) 0), box B8 [.slice al l.length cl] 26, box B7 [.map (some B6)] 113, box B1 [.slice al l.length cl] 26, base w0]) [2, 3, 4, 0, 1, 5, 6] (by decide) rfl
 ·intro D e0 W1 hW1
  exact ⟨boxX (i := 2) (js := [0]) rfl (by decide) rfl W1 hW1, (rdX (i := 5) (js := [0]) rfl (by decide) rfl (fun _ hA => slR_base hl hA)) W1 hW1⟩
 ·rintro l_ rc D e0 W1 hW1 x_ k ⟨ol, aol, col, Sol, m⟩ hk hI
  have hol := hI.len
  have hor0_1 : SlR tInt (outer W1 [e0]).S W1 al cl l := (rdX (i := 5) (js := [0]) rfl (by decide) rfl (fun _ hA => slR_base hl hA)) W1 hW1
  have hlhor0_1 := hor0_1.2.1
  have hobr0_B1 := boxX (i := 4) (B := B1) (cs := [.slice al l.length cl]) (U := 26) (js := [0]) (pre := [e0]) rfl (by decide) rfl W1 hW1
  have hobr0_B7 := boxX (i := 3) (B := B7) (cs := [.map (some B6)]) (U := 113) (js := [0]) (pre := [e0]) rfl (by decide) rfl W1 hW1
  refine c_seq (c_region ?_)
  refine o_as rfl rfl ?_
  refine o_nil (q_then (c_region ?_))
  refine o_as rfl rfl ?_
  refine o_nil ?_
  refine q_begin (i := 1) rfl ?_
  refine c_block (c_seq (c_region ?_))
  refine o_p (p_loadR (v := .map (some B6)) rfl (rbox_outer (i := 0) rfl hobr0_B7) sh113 rfl) ?_
  refine o_mv rfl rfl ?_
  refine o_p (p_lookup2 (i := 2) (K := kInt) (ve := (fun z : Int => Vi z)) (m := m) (k := (l.getD (l.length - 1 - k) 0)) (dflt := 0) rfl rfl rfl Tryz.underlying113 Tryz.underlying3 zv3) ?_
  refine o_mv rfl rfl ?_
  refine o_ex rfl rfl rfl ?_
  refine o_ex rfl rfl rfl ?_
  refine o_as rfl rfl ?_
  refine o_as rfl rfl ?_
  refine o_nil (q_then (c_seq (c_seq (c_region ?_))))
  refine o_mv rfl rfl ?_
  refine o_p (p_not (b := (AL.get m (l.getD (l.length - 1 - k) 0)).isSome) rfl) ?_
  refine o_nil (q_then ?_)
  refine c_cond rfl (fun hc9 => ?_) (fun hc9 => ?_)
  ·simp only [Bool.not_eq_true'] at hc9
   refine c_region ?_
   refine o_p (p_loadR (v := .slice al l.length cl) rfl (rbox_outer (i := 0) rfl hobr0_B1) sh26 rfl) ?_
   refine o_p (p_len_slice rfl rfl Tryz.underlying26) ?_
   refine o_as rfl rfl ?_
   refine o_nil (q_then ?_)
   refine c_heldR hmix (by decide) (fun _ _ h => h) [outer W1 [e0], loopE l_ (recd rc .busy none), box B5 [.slice aol ol.length col] 26, ownE tInt Sol aol col (ol.length)] rfl rfl ?_
   refine h_tk (i := 0) (ls := #[T1,F0,F0,F0,F0,F0,F0,F0,F0]) rfl (p_load (i := 2) (v := .slice aol ol.length col) rfl rfl sh26 rfl) (fun _ hw => HeapIs.drop (HeapIs.toE (i := 4) (m := ol.length) (T := tInt) rfl (by simp only [List.length_set]) hw) (lj (lj (lz (lj (lj (ln))))))) ?_
   refine h_tk (i := 1) (ls := #[T1,T1,F0,F0,F0,F0,F0,F0,F0]) rfl (p_move rfl) (fun _ hw => HeapIs.drop (HeapIs.toE (i := 4) (m := ol.length) (T := tInt) rfl (by simp only [List.length_set]) hw) (lj (lj (lz (lj (lj (ln))))))) ?_
   refine h_tk (i := 2) (ls := #[T1,T1,T1,F0,F0,F0,F0,F0,F0]) rfl (p_loadR (v := .map (some B6)) rfl (rbox_outer (i := 0) rfl hobr0_B7) sh113 rfl) (fun _ hw => HeapIs.drop (HeapIs.toE (i := 4) (m := ol.length) (T := tInt) rfl (by simp only [List.length_set]) hw) (lj (lj (lz (lj (lj (ln))))))) ?_
   refine h_tk (i := 3) (ls := #[T1,T1,T1,T1,F0,F0,F0,F0,F0]) rfl (p_move rfl) (fun _ hw => HeapIs.drop (HeapIs.toE (i := 4) (m := ol.length) (T := tInt) rfl (by simp only [List.length_set]) hw) (lj (lj (lz (lj (lj (ln))))))) ?_
   refine h_tk (i := 4) (ls := #[T1,T1,T1,T1,T1,F0,F0,F0,F0]) rfl (p_move rfl) (fun _ hw => HeapIs.drop (HeapIs.toE (i := 4) (m := ol.length) (T := tInt) rfl (by simp only [List.length_set]) hw) (lj (lj (lz (lj (lj (ln))))))) ?_
   refine h_tk (i := 5) (ls := #[T1,T1,T1,T1,T1,T1,F0,F0,F0]) rfl (p_move rfl) (fun _ hw => HeapIs.drop (HeapIs.toE (i := 4) (m := ol.length) (T := tInt) rfl (by simp only [List.length_set]) hw) (lj (lj (lz (lj (lj (ln))))))) ?_
   refine h_tk (i := 6) (ls := #[T1,T1,T1,T1,T1,T1,T1,F0,F0]) rfl (p_indexAddrE (T := tInt) (i := ((l.length : Int) - 1 - (k : Int))) (j := 3) rfl rfl rfl Tryz.underlying26 sz3 (by omega) (by omega)) (fun _ hw => HeapIs.drop (HeapIs.toE (i := 4) (m := ol.length) (T := tInt) rfl (by simp only [List.length_set]) hw) (lj (lj (lz (lj (lj (ln))))))) ?_
   refine h_one (i := 7) (ls := #[T1,T1,T1,T1,T1,T1,T1,T1,F0]) (by kernel_rfl) rfl rfl ?_
   refine o_storeW (i := 4) (T := tInt) (idx := ((l.length : Int) - 1 - (k : Int)).toNat) (v := Vi (l.length : Int)) (vs := [Vi (l.length : Int)]) (z := (l.length : Int)) rfl rfl rfl rfl (by first | assumption | omega | (simp only [List.length_set]; omega)) sz3 rfl rfl rfl rfl (Sub.refl _) ?_
   refine o_nil ?_
   refine h_next (fun _ hw => HeapIs.drop (HeapIs.toE (i := 4) (m := ol.length) (T := tInt) rfl (by simp only [List.length_set]) hw) (lj (lj (lz (lj (lj (ln))))))) ?_
   refine h_one (i := 8) (ls := #[T1,T1,T1,T1,T1,T1,T1,T1,T1]) (by kernel_rfl) rfl rfl ?_
   refine o_mapUpdate (i := 2) (K := kInt) (ve := (fun z : Int => Vi z)) (m := m) (k := (l.getD (l.length - 1 - k) 0)) (v := ((l.length : Int) - 1 - (k : Int))) rfl rfl rfl rfl Tryz.underlying113 Tryz.underlying3 ?_
   refine o_nil ?_
   refine h_next (fun _ hw => HeapIs.drop (HeapIs.toE (i := 4) (m := ol.length) (T := tInt) rfl (by simp only [List.length_set]) hw) (lj (lj (lz (lj (lj (ln))))))) ?_
   refine h_done (by kernel_rfl) ?_
   refine q_cast (F' := []) (H := [outer W1 [e0], loopE l_ (recd rc .busy none), mapE kInt (fun z : Int => Vi z) B6 (AL.set m (l.getD (l.length - 1 - k) 0) ((l.length : Int) - 1 - (k : Int))), box B5 [.slice aol ol.length col] 26, own tInt Sol aol col (ol.set (((l.length : Int) - 1 - (k : Int)).toNat) (l.length : Int))]) (H' := [outer W1 [e0], loopE l_ (recd rc .busy none), mapE kInt (fun z : Int => Vi z) B6 (AL.set m (l.getD (l.length - 1 - k) 0) ((l.length : Int) - 1 - (k : Int))), box B5 [.slice aol (ol.set (((l.length : Int) - 1 - (k : Int)).toNat) (l.length : Int)).length col] 26, own tInt Sol aol col (ol.set (((l.length : Int) - 1 - (k : Int)).toNat) (l.length : Int))]) (Sub.nil _) (by simp only [List.length_set, List.length_reverse]) ?_
   refine q_block_normal ?_
   refine q_next ((ol.set (((l.length : Int) - 1 - (k : Int)).toNat) (l.length : Int)), aol, col, Sol, (AL.set m (l.getD (l.length - 1 - k) 0) ((l.length : Int) - 1 - (k : Int)))) ?_ (fun w hw => hw.pick (H' := [outer W1 [e0], loopE l_ (recd rc .busy none), mapE kInt (fun z : Int => Vi z) B6 (AL.set m (l.getD (l.length - 1 - k) 0) ((l.length : Int) - 1 - (k : Int))), box B5 [.slice aol (ol.set (((l.length : Int) - 1 - (k : Int)).toNat) (l.length : Int)).length col] 26, own tInt Sol aol col (ol.set (((l.length : Int) - 1 - (k : Int)).toNat) (l.length : Int))]) [0, 1, 2, 3, 4] (by decide) rfl)
   first | exact hI.next hk rfl rfl (hI.some (by assumption)) | exact hI.next hk rfl rfl (hI.none (by assumption))
  ·simp only [Bool.not_eq_false'] at hc9
   refine c_skip (q_then ?_)
   refine c_heldR hmix (by decide) (fun _ _ h => h) [outer W1 [e0], loopE l_ (recd rc .busy none), box B5 [.slice aol ol.length col] 26, ownE tInt Sol aol col (ol.length)] rfl rfl ?_
   refine h_tk (i := 0) (ls := #[T1,F0,F0,F0,F0,F0,F0,F0,F0]) rfl (p_load (i := 2) (v := .slice aol ol.length col) rfl rfl sh26 rfl) (fun _ hw => HeapIs.drop (HeapIs.toE (i := 4) (m := ol.length) (T := tInt) rfl (by simp only [List.length_set]) hw) (lj (lj (lz (lj (lj (ln))))))) ?_
   refine h_tk (i := 1) (ls := #[T1,T1,F0,F0,F0,F0,F0,F0,F0]) rfl (p_move rfl) (fun _ hw => HeapIs.drop (HeapIs.toE (i := 4) (m := ol.length) (T := tInt) rfl (by simp only [List.length_set]) hw) (lj (lj (lz (lj (lj (ln))))))) ?_
   refine h_tk (i := 2) (ls := #[T1,T1,T1,F0,F0,F0,F0,F0,F0]) rfl (p_loadR (v := .map (some B6)) rfl (rbox_outer (i := 0) rfl hobr0_B7) sh113 rfl) (fun _ hw => HeapIs.drop (HeapIs.toE (i := 4) (m := ol.length) (T := tInt) rfl (by simp only [List.length_set]) hw) (lj (lj (lz (lj (lj (ln))))))) ?_
   refine h_tk (i := 3) (ls := #[T1,T1,T1,T1,F0,F0,F0,F0,F0]) rfl (p_move rfl) (fun _ hw => HeapIs.drop (HeapIs.toE (i := 4) (m := ol.length) (T := tInt) rfl (by simp only [List.length_set]) hw) (lj (lj (lz (lj (lj (ln))))))) ?_
   refine h_tk (i := 4) (ls := #[T1,T1,T1,T1,T1,F0,F0,F0,F0]) rfl (p_move rfl) (fun _ hw => HeapIs.drop (HeapIs.toE (i := 4) (m := ol.length) (T := tInt) rfl (by simp only [List.length_set]) hw) (lj (lj (lz (lj (lj (ln))))))) ?_
   refine h_tk (i := 5) (ls := #[T1,T1,T1,T1,T1,T1,F0,F0,F0]) rfl (p_move rfl) (fun _ hw => HeapIs.drop (HeapIs.toE (i := 4) (m := ol.length) (T := tInt) rfl (by simp only [List.length_set]) hw) (lj (lj (lz (lj (lj (ln))))))) ?_
   refine h_tk (i := 6) (ls := #[T1,T1,T1,T1,T1,T1,T1,F0,F0]) rfl (p_indexAddrE (T := tInt) (i := ((l.length : Int) - 1 - (k : Int))) (j := 3) rfl rfl rfl Tryz.underlying26 sz3 (by omega) (by omega)) (fun _ hw => HeapIs.drop (HeapIs.toE (i := 4) (m := ol.length) (T := tInt) rfl (by simp only [List.length_set]) hw) (lj (lj (lz (lj (lj (ln))))))) ?_
   refine h_one (i := 7) (ls := #[T1,T1,T1,T1,T1,T1,T1,T1,F0]) (by kernel_rfl) rfl rfl ?_
   refine o_storeW (i := 4) (T := tInt) (idx := ((l.length : Int) - 1 - (k : Int)).toNat) (v := Vi ((AL.get m (l.getD (l.length - 1 - k) 0)).getD 0)) (vs := [Vi ((AL.get m (l.getD (l.length - 1 - k) 0)).getD 0)]) (z := ((AL.get m (l.getD (l.length - 1 - k) 0)).getD 0)) rfl rfl rfl rfl (by first | assumption | omega | (simp only [List.length_set]; omega)) sz3 rfl rfl rfl rfl (Sub.refl _) ?_
   refine o_nil ?_
   refine h_next (fun _ hw => HeapIs.drop (HeapIs.toE (i := 4) (m := ol.length) (T := tInt) rfl (by simp only [List.length_set]) hw) (lj (lj (lz (lj (lj (ln))))))) ?_
   refine h_one (i := 8) (ls := #[T1,T1,T1,T1,T1,T1,T1,T1,T1]) (by kernel_rfl) rfl rfl ?_
   refine o_mapUpdate (i := 2) (K := kInt) (ve := (fun z : Int => Vi z)) (m := m) (k := (l.getD (l.length - 1 - k) 0)) (v := ((l.length : Int) - 1 - (k : Int))) rfl rfl rfl rfl Tryz.underlying113 Tryz.underlying3 ?_
   refine o_nil ?_
   refine h_next (fun _ hw => HeapIs.drop (HeapIs.toE (i := 4) (m := ol.length) (T := tInt) rfl (by simp only [List.length_set]) hw) (lj (lj (lz (lj (lj (ln))))))) ?_
   refine h_done (by kernel_rfl) ?_
   refine q_cast (F' := []) (H := [outer W1 [e0], loopE l_ (recd rc .busy none), mapE kInt (fun z : Int => Vi z) B6 (AL.set m (l.getD (l.length - 1 - k) 0) ((l.length : Int) - 1 - (k : Int))), box B5 [.slice aol ol.length col] 26, own tInt Sol aol col (ol.set (((l.length : Int) - 1 - (k : Int)).toNat) ((AL.get m (l.getD (l.length - 1 - k) 0)).getD 0))]) (H' := [outer W1 [e0], loopE l_ (recd rc .busy none), mapE kInt (fun z : Int => Vi z) B6 (AL.set m (l.getD (l.length - 1 - k) 0) ((l.length : Int) - 1 - (k : Int))), box B5 [.slice aol (ol.set (((l.length : Int) - 1 - (k : Int)).toNat) ((AL.get m (l.getD (l.length - 1 - k) 0)).getD 0)).length col] 26, own tInt Sol aol col (ol.set (((l.length : Int) - 1 - (k : Int)).toNat) ((AL.get m (l.getD (l.length - 1 - k) 0)).getD 0))]) (Sub.nil _) (by simp only [List.length_set, List.length_reverse]) ?_
   refine q_block_normal ?_
   refine q_next ((ol.set (((l.length : Int) - 1 - (k : Int)).toNat) ((AL.get m (l.getD (l.length - 1 - k) 0)).getD 0)), aol, col, Sol, (AL.set m (l.getD (l.length - 1 - k) 0) ((l.length : Int) - 1 - (k : Int)))) ?_ (fun w hw => hw.pick (H' := [outer W1 [e0], loopE l_ (recd rc .busy none), mapE kInt (fun z : Int => Vi z) B6 (AL.set m (l.getD (l.length - 1 - k) 0) ((l.length : Int) - 1 - (k : Int))), box B5 [.slice aol (ol.set (((l.length : Int) - 1 - (k : Int)).toNat) ((AL.get m (l.getD (l.length - 1 - k) 0)).getD 0)).length col] 26, own tInt Sol aol col (ol.set (((l.length : Int) - 1 - (k : Int)).toNat) ((AL.get m (l.getD (l.length - 1 - k) 0)).getD 0))]) [0, 1, 2, 3, 4] (by decide) rfl)
   first | exact hI.next hk rfl rfl (hI.some (by assumption)) | exact hI.next hk rfl rfl (hI.none (by assumption))
 ·rintro D ⟨ol, aol, col, Sol, m⟩ hI
  show SQ _ 35 w0 _ _ _ [defE D, mapE kInt (fun z : Int => Vi z) B6 m, box B5 [.slice aol ol.length col] 26, own tInt Sol aol col ol, box B8 [.slice al l.length cl] 26, box B7 [.map (some B6)] 113, box B1 [.slice al l.length cl] 26, base w0]
  refine q_block_normal (q_then ?_)
  refine c_seq (c_region ?_)
  refine o_p (p_load (i := 2) (v := .slice aol ol.length col) rfl rfl sh26 rfl) ?_
  refine o_as rfl rfl ?_
  refine o_nil (q_then (c_ret ?_))
  refine q_marks (i := 0) rfl ?_
  show SQ _ 35 w0 _ _ _ [mapE kInt (fun z : Int => Vi z) B6 m, box B5 [.slice aol ol.length col] 26, own tInt Sol aol col ol, box B8 [.slice al l.length cl] 26, box B7 [.map (some B6)] 113, box B1 [.slice al l.length cl] 26, base w0]
  refine q_marks0 ?_
  have hr0 : (ol : List Int) = (Opt.nexts l) := by
   exact hI.done
  refine q_endM (p := (aol, col)) Sol (rt1 rfl (r_tmp rfl)) (i := 6) rfl ?_ ?_ ?_
  ·exact (by have hcc := congrArg (fun (y0 : List Int) => (.slice aol y0.length col : Value)) hr0; exact hcc)
  ·exact fun w hw => hw.above (i := 6) (j := 2) (by decide) rfl rfl
  ·intro w hw; exact Eq.mp (congrArg (fun y => SlO tInt _ w aol col y) hr0) ((hw.at (i := 2) rfl).here)
 ·intro D c s h; exact h.elim

set_option maxHeartbeats 8000000 in
set_option maxRecDepth 100000 in
theorem farthest_ok (m : List (Int × Int)) (Bm : Nat) (hy1 : ∀ p ∈ m, 0 ≤ p.2) : Fn0 Tryz.prog 68 [.map (some Bm)] (fun w => MapIs kInt (fun z : Int => Vi z) Bm m w) (Vi (Opt.far m)) := by
 refine fn0 (nt := 30) (F0 := [(0, .map (some Bm))]) Tryz.func68 rfl Tryz.ntmps68 rfl rfl (fun w0 hpre => ?_)
 have hm := hpre
 obtain ⟨es_hm, cl_hm, hm_1, hm_2, hm_3⟩ : ∃ es c, _ ∧ _ ∧ _ := (id hm)
 refine c_seq (c_region ?_)
 refine o_as rfl rfl ?_
 refine o_nil (q_then (c_seq (c_region ?_)))
 refine o_as rfl rfl ?_
 refine o_as rfl rfl ?_
 refine o_nil (q_then (c_seq (c_seq (c_region ?_))))
 refine o_mv rfl rfl ?_
 refine o_range (K := kInt) (ve := (fun z : Int => Vi z)) (m := m) rfl (blk_base (i := 0) rfl hm_1) hm_2 hm_3 Tryz.underlying114 rfl (fun B1 => ?_)
 refine o_nil (q_then (c_block ?_))
 refine c_loop (St := Int × Int × List (Int × Int) × Option (Int × Int))
  (fun ⟨best, when_, lf, lfc⟩ => [(3, Vi best), (4, Vi when_), (8, .pointer (some ⟨B1, 0, none⟩))])
  (fun ⟨best, when_, lf, lfc⟩ => [iterE kInt (fun z : Int => Vi z) B1 Bm es_hm cl_hm lf lfc, base w0])
  (fun ⟨best, when_, lf, lfc⟩ => Opt.FI m lf best when_)
  (fun ⟨best, when_, lf, lfc⟩ => lf.length)
  ((-1), (-1), m, none) ?_ (sr (sr (sr (Sub.nil _)))) (fun _ hw => hw) ?_
 ·exact Opt.FI.start m
 rintro ⟨best, when_, lf, lfc⟩ hI K hK2
 show SC _ _ Tryz.prog 30 w0 _ _ [(3, Vi best), (4, Vi when_), (8, .pointer (some ⟨B1, 0, none⟩))] [iterE kInt (fun z : Int => Vi z) B1 Bm es_hm cl_hm lf lfc, base w0]
 refine c_seq (c_region ?_)
 refine o_next (i := 0) rfl rfl (blk_base (i := 1) rfl hm_1) hm_3 rfl ?_ ?_
 ·intro hnil
  refine o_ex rfl rfl rfl ?_
  refine o_nil (q_then (c_seq ?_))
  refine c_false rfl ?_
  refine c_exit ?_
  refine q_then_exit (q_then_exit (q_block_exit (q_then ?_)))
  refine c_seq (c_region ?_)
  refine o_mv rfl rfl ?_
  refine o_as rfl rfl ?_
  refine o_nil (q_then (c_ret ?_))
  have hr0 : (best : Int) = (Opt.far m) := by
   exact hI.done hnil hy1
  refine q_end0 (v := Vi best) (rt1 rfl (r_tmp rfl)) (i := 1) rfl ?_
  exact (by have hcc := congrArg (fun (y0 : Int) => (.int .i64 y0 : Value)) hr0; exact hcc)
 ·rintro xe xA xC hxs
  refine o_ex rfl rfl rfl ?_
  refine o_nil (q_then (c_seq ?_))
  refine c_true rfl ?_
  refine c_skip (q_then (c_block (c_seq (c_region ?_))))
  refine o_p (p_entry (K := kInt) (ve := (fun z : Int => Vi z)) (p := xe) (i := 0) rfl rfl (blk_base (i := 1) rfl hm_1) hm_3) ?_
  refine o_ex rfl rfl rfl ?_
  refine o_ex rfl rfl rfl ?_
  refine o_as rfl rfl ?_
  refine o_as rfl rfl ?_
  refine o_nil (q_then (c_seq (c_region ?_)))
  refine o_mv rfl rfl ?_
  refine o_mv rfl rfl ?_
  refine o_p (p_gt rfl rfl) ?_
  refine o_mv rfl rfl ?_
  refine o_or (p := 26) 9 ((xe.2 == when_) && decide (xe.1 < best)) ?_ ?_ ?_
  ·intro hb3 hk
   simp only [decide_eq_false_iff_not, Int.not_lt] at hb3
   refine o_unguard 17 rfl rfl ?_
   refine o_mv rfl rfl ?_
   refine o_unguard 17 rfl rfl ?_
   refine o_mv rfl rfl ?_
   refine o_unguard 17 rfl rfl ?_
   refine o_p (p_eq rfl rfl) ?_
   refine o_unguard 17 rfl rfl ?_
   refine o_mv rfl rfl ?_
   refine o_and (p := 25) 4 (decide (xe.1 < best)) ?_ ?_ ?_
   ·intro hb4 hk
    simp only [beq_iff_eq] at hb4
    refine o_unguard 21 rfl rfl ?_
    refine o_mv rfl rfl ?_
    refine o_unguard 21 rfl rfl ?_
    refine o_mv rfl rfl ?_
    refine o_unguard 21 rfl rfl ?_
    refine o_p (p_lt rfl rfl) ?_
    refine o_unguard 17 rfl rfl ?_
    refine o_pt rfl rfl rfl ?_
    exact o_sub (sr (Sub.skip rfl (Sub.skip rfl (Sub.skip rfl (Sub.skip rfl (Sub.skip rfl (Sub.refl _))))))) hk
   ·intro hb4 hk
    refine o_guard_no rfl 21 rfl rfl rfl rfl rfl ?_
    refine o_guard_no rfl 21 rfl rfl rfl rfl rfl ?_
    refine o_guard_no rfl 21 rfl rfl rfl rfl rfl ?_
    refine o_unguard 17 rfl rfl ?_
    refine o_pf rfl rfl rfl ?_
    exact o_sub (sr (Sub.skip rfl (Sub.skip rfl (Sub.skip rfl (Sub.skip rfl (Sub.skip rfl (Sub.refl _))))))) hk
   refine o_pf rfl rfl rfl ?_
   exact o_sub (sr (Sub.skip rfl (Sub.skip rfl (Sub.skip rfl (Sub.skip rfl (Sub.skip rfl (Sub.skip rfl (Sub.refl _)))))))) hk
  ·intro hb3 hk
   refine o_guard_no rfl 17 rfl rfl rfl rfl rfl ?_
   refine o_guard_no rfl 17 rfl rfl rfl rfl rfl ?_
   refine o_guard_no rfl 17 rfl rfl rfl rfl rfl ?_
   refine o_guard_no rfl 17 rfl rfl rfl rfl rfl ?_
   refine o_guard_no rfl 21 rfl rfl rfl rfl rfl ?_
   refine o_guard_no rfl 21 rfl rfl rfl rfl rfl ?_
   refine o_guard_no rfl 21 rfl rfl rfl rfl rfl ?_
   refine o_guard_no rfl 17 rfl rfl rfl rfl rfl ?_
   refine o_pt rfl rfl rfl ?_
   exact o_sub (sr (Sub.skip rfl (Sub.skip rfl (Sub.skip rfl (Sub.skip rfl (Sub.skip rfl (Sub.skip rfl (Sub.skip rfl (Sub.skip rfl (Sub.skip rfl (Sub.skip rfl (Sub.refl _)))))))))))) hk
  refine o_nil (q_then ?_)
  refine c_cond rfl (fun hc5 => ?_) (fun hc5 => ?_)
  ·simp only [Bool.or_eq_true, decide_eq_true_eq, Bool.and_eq_true, beq_iff_eq] at hc5
   have hpk := hc5
   refine c_region ?_
   refine o_mv rfl rfl ?_
   refine o_mv rfl rfl ?_
   refine o_as rfl rfl ?_
   refine o_as rfl rfl ?_
   refine o_nil ?_
   refine q_block_normal ?_
   refine q_round hK2 (xe.1, xe.2, (xA ++ xC), (some xe)) ?_ ?_ ?_ ?_
   ·clear hK2
    first | exact hI.take_ hxs hy1 (by omega) | exact hI.skip hxs hy1 (by omega)
   ·(try dsimp only); rw [hxs]; simp only [List.length_append, List.length_cons]; omega
   ·exact sr (sr (sr (Sub.nil _)))
   ·exact pk [0, 1]
  ·simp only [Bool.or_eq_false_iff, decide_eq_false_iff_not, Int.not_lt, Bool.and_eq_false_iff, beq_eq_false_iff_ne, ne_eq] at hc5
   have hpk := hc5
   refine c_skip ?_
   refine q_block_normal ?_
   refine q_round hK2 (best, when_, (xA ++ xC), (some xe)) ?_ ?_ ?_ ?_
   ·clear hK2
    first | exact hI.take_ hxs hy1 (by omega) | exact hI.skip hxs hy1 (by omega)
   ·(try dsimp only); rw [hxs]; simp only [List.length_append, List.length_cons]; omega
   ·exact sr (sr (sr (Sub.nil _)))
   ·exact pk [0, 1]

set_option maxHeartbeats 8000000 in
set_option maxRecDepth 100000 in
theorem oevict_ok (l : List Int) (al : Option Addr) (cl : Nat) (room : Int) : FnM Tryz.prog 35 [.slice al l.length cl, Vi room] (fun w => Rd tInt w al cl l) (Option Addr × Nat) (fun p => .tuple #[.slice p.1 ((Opt.ev l room).1).length p.2, Vi ((Opt.ev l room).2), Vi (Opt.evErr l room)]) (fun p S w => SlO tInt S w p.1 p.2 ((Opt.ev l room).1)) := by
 refine fnM (nt := 70) (F0 := [(0, .slice al l.length cl), (1, Vi room)]) Tryz.func35 rfl Tryz.ntmps35 rfl rfl (fun w0 hpre => ?_)
 have hl := hpre
 have hlhl := hl.2.1
 refine c_seq (c_region ?_)
 refine o_as rfl rfl ?_
 refine o_as rfl rfl ?_
 refine o_as rfl rfl ?_
 refine o_nil (q_then (c_seq (c_region ?_)))
 refine o_mv rfl rfl ?_
 refine o_call0 (v := Vi (Lru.trace l)) rfl (checkTrace_ok l al cl) hf17 (fun w hw => (rd_base (i := 0) rfl hl) w hw) rfl ?_
 refine o_as rfl rfl ?_
 refine o_nil (q_then (c_seq (c_seq (c_region ?_))))
 refine o_mv rfl rfl ?_
 refine o_p (p_eq rfl rfl) ?_
 refine o_mv rfl rfl ?_
 refine o_and (p := 25) 4 (!(Lru.okRoom room)) ?_ ?_ ?_
 ·intro hb1 hk
  simp only [beq_iff_eq] at hb1
  refine o_unguard 21 rfl rfl ?_
  refine o_mv rfl rfl ?_
  refine o_unguard 21 rfl rfl ?_
  refine o_call0 (v := .bool (Lru.okRoom room)) rfl (room_ok room) hf36 (fun _ _ => trivial) rfl ?_
  refine o_unguard 21 rfl rfl ?_
  refine o_p (p_not (b := (Lru.okRoom room)) rfl) ?_
  refine o_pt rfl rfl rfl ?_
  exact o_sub (sr (Sub.skip rfl (Sub.skip rfl (Sub.skip rfl (Sub.skip rfl (Sub.skip rfl (Sub.refl _))))))) hk
 ·intro hb1 hk
  refine o_guard_no rfl 21 rfl rfl rfl rfl rfl ?_
  refine o_guard_no rfl 21 rfl rfl rfl rfl rfl ?_
  refine o_guard_no rfl 21 rfl rfl rfl rfl rfl ?_
  refine o_pf rfl rfl rfl ?_
  exact o_sub (sr (Sub.skip rfl (Sub.skip rfl (Sub.skip rfl (Sub.skip rfl (Sub.skip rfl (Sub.refl _))))))) hk
 refine o_nil (q_then ?_)
 refine c_cond rfl (fun hc2 => ?_) (fun hc2 => ?_)
 ·simp only [Bool.and_eq_true, beq_iff_eq, Bool.not_eq_true'] at hc2
  have hbad := hc2
  refine c_region ?_
  refine o_as rfl rfl ?_
  refine o_nil (q_then (c_seq (c_seq (c_region ?_))))
  refine o_mv rfl rfl ?_
  refine o_p (p_ne rfl rfl) ?_
  refine o_nil (q_then ?_)
  refine c_true rfl ?_
  refine c_seq (c_region ?_)
  refine o_mv rfl rfl ?_
  refine o_as rfl rfl ?_
  refine o_as rfl rfl ?_
  refine o_as rfl rfl ?_
  refine o_nil (q_then (c_ret ?_))
  refine q_then_ret ?_
  obtain ⟨hv1, hv2⟩ : _ ∧ _ := by first | exact Opt.ev2 (room := room) hbad.1 hbad.2 | exact Opt.ev3 (room := room) htr hrk | exact Opt.ev1 (room := room) (by assumption)
  have hr0 : ([] : List Int) = ((Opt.ev l room).1) := by
   first | (rw [hv1]; done) | exact hv2.symm | (rw [hv1, ← hdn]; done)
  have hr1 : (0 : Int) = ((Opt.ev l room).2) := by
   first | (rw [hv1]; done) | exact hv2.symm | (rw [hv1, ← hdn]; done)
  have hr2 : (3 : Int) = (Opt.evErr l room) := by
   first | (rw [hv1]; done) | exact hv2.symm | (rw [hv1, ← hdn]; done)
  refine q_endM (p := (none, 0)) (fun _ => False) (rt3 rfl (r_tmp rfl) (r_tmp rfl) (r_tmp rfl)) (i := 0) rfl ?_ ?_ ?_
  ·exact (by have hcc := congr (congr (congrArg (fun (y0 : List Int) (y1 : Int) (y2 : Int) => (.tuple #[.slice none y0.length 0, .int .i64 y1, .int .i64 y2] : Value)) hr0) hr1) hr2; exact hcc)
  ·intro w hw b hb; exact hb.elim
  ·intro w hw; exact Eq.mp (congrArg (fun y => SlO tInt _ w none 0 y) hr0) (SlO.nil tInt w)
 ·simp only [Bool.and_eq_false_iff, beq_eq_false_iff_ne, ne_eq, Bool.not_eq_false'] at hc2
  have hro := hc2
  refine c_skip (q_then (c_seq (c_seq (c_region ?_))))
  refine o_mv rfl rfl ?_
  refine o_p (p_ne rfl rfl) ?_
  refine o_nil (q_then ?_)
  refine c_cond rfl (fun hc3 => ?_) (fun hc3 => ?_)
  ·simp only [bne_iff_ne, ne_eq] at hc3
   refine c_seq (c_region ?_)
   refine o_mv rfl rfl ?_
   refine o_as rfl rfl ?_
   refine o_as rfl rfl ?_
   refine o_as rfl rfl ?_
   refine o_nil (q_then (c_ret ?_))
   refine q_then_ret ?_
   obtain ⟨hv1, hv2⟩ : _ ∧ _ := by first | exact Opt.ev2 (room := room) hbad.1 hbad.2 | exact Opt.ev3 (room := room) htr hrk | exact Opt.ev1 (room := room) (by assumption)
   have hr0 : ([] : List Int) = ((Opt.ev l room).1) := by
    first | (rw [hv1]; done) | exact hv2.symm | (rw [hv1, ← hdn]; done)
   have hr1 : (0 : Int) = ((Opt.ev l room).2) := by
    first | (rw [hv1]; done) | exact hv2.symm | (rw [hv1, ← hdn]; done)
   have hr2 : ((Lru.trace l) : Int) = (Opt.evErr l room) := by
    first | (rw [hv1]; done) | exact hv2.symm | (rw [hv1, ← hdn]; done)
   refine q_endM (p := (none, 0)) (fun _ => False) (rt3 rfl (r_tmp rfl) (r_tmp rfl) (r_tmp rfl)) (i := 0) rfl ?_ ?_ ?_
   ·exact (by have hcc := congr (congr (congrArg (fun (y0 : List Int) (y1 : Int) (y2 : Int) => (.tuple #[.slice none y0.length 0, .int .i64 y1, .int .i64 y2] : Value)) hr0) hr1) hr2; exact hcc)
   ·intro w hw b hb; exact hb.elim
   ·intro w hw; exact Eq.mp (congrArg (fun y => SlO tInt _ w none 0 y) hr0) (SlO.nil tInt w)
  ·simp only [bne_eq_false_iff_eq] at hc3
   have htr := hc3
   have h200 := (Lru.trace_ok.1 htr).1
   have hrk := hro.resolve_left (fun h => h htr)
   have hrm := Lru.room_ok hrk
   have hnl := Opt.nexts_len l
   refine c_skip (q_then (c_seq (c_region ?_)))
   refine o_mv rfl rfl ?_
   refine o_callM rfl (nexts_ok l al cl (by omega)) hf67 (fun w hw => (rd_base (i := 0) rfl hl) w hw) rfl (fun _ _ _ _ ha hA => SlO.agree ha hA) ?_
   rintro ⟨a6, c7⟩ S4
   refine o_know (fun w hw => own_len (i := 0) (T := tInt) hw rfl) (fun hlr8 => ?_)
   refine o_as rfl rfl ?_
   refine o_nil (q_then (c_seq (c_region ?_)))
   refine o_makeMap (ν := Int) kInt (fun z : Int => Vi z) rfl (fun B9 => ?_)
   refine o_as rfl rfl ?_
   refine o_as rfl rfl ?_
   refine o_nil (q_then (c_seq (c_region ?_)))
   refine o_as rfl rfl ?_
   refine o_nil (q_then (c_seq (c_seq (c_region ?_))))
   refine o_mv rfl rfl ?_
   refine o_p (p_len_slice rfl rfl Tryz.underlying26) ?_
   refine o_mv rfl rfl ?_
   refine o_nil (q_then (c_block ?_))
   refine c_ownNil tInt ?_
   refine c_loop (St := Int × List Int × Option Addr × Nat × (Nat → Prop) × Nat × List (Int × Int))
    (fun ⟨misses, out, aout, cout, Sout, k, m⟩ => [(1, Vi room), (8, .slice a6 (Opt.nexts l).length c7), (9, .map (some B9)), (10, Vi misses), (11, .slice aout out.length cout), (32, .slice al l.length cl), (33, Vi (l.length : Int)), (34, Vi (k : Int))])
    (fun ⟨misses, out, aout, cout, Sout, k, m⟩ => [own tInt Sout aout cout out, mapE kInt (fun z : Int => Vi z) B9 m, own tInt S4 a6 c7 (Opt.nexts l), base w0])
    (fun ⟨misses, out, aout, cout, Sout, k, m⟩ => Opt.EInv l room m out misses k)
    (fun ⟨misses, out, aout, cout, Sout, k, m⟩ => l.length - k)
    (0, [], none, 0, (fun _ => False), 0, []) ?_ (sr (sr (sr (sr (sr (sr (sr (sr (Sub.nil _))))))))) (fun _ hw => hw) ?_
   ·exact Opt.EInv.start l room
   rintro ⟨misses, out, aout, cout, Sout, k, m⟩ hI K hK11
   obtain ⟨hol, hm0, hm1⟩ := hI.bd hrm.1
   have hkl := hI.le
   show SC _ _ Tryz.prog 70 w0 _ _ [(1, Vi room), (8, .slice a6 (Opt.nexts l).length c7), (9, .map (some B9)), (10, Vi misses), (11, .slice aout out.length cout), (32, .slice al l.length cl), (33, Vi (l.length : Int)), (34, Vi (k : Int))] [own tInt Sout aout cout out, mapE kInt (fun z : Int => Vi z) B9 m, own tInt S4 a6 c7 (Opt.nexts l), base w0]
   refine c_seq (c_region ?_)
   refine o_p (p_lt rfl rfl) ?_
   refine o_nil (q_then (c_seq ?_))
   refine c_cond rfl (fun hc12 => ?_) (fun hc12 => ?_)
   ·simp only [decide_eq_true_eq] at hc12
    have hnx := Opt.nexts_at (l := l) (i := k) (by omega) (by omega)
    refine c_skip (q_then (c_seq (c_block (c_seq (c_region ?_)))))
    refine o_mv rfl rfl ?_
    refine o_p (p_indexAddr (L := l) (T := tInt) (i := (k : Int)) rfl rfl (rd_base (i := 3) rfl hl) Tryz.underlying26 sz3 (by omega) (by omega)) ?_
    refine o_p (p_loadE1 (i := k) (T := tInt) (L := l) (v := Vi (l[k])) rfl (rd_base (i := 3) rfl hl) (by first | assumption | omega) sh3 rfl) ?_
    refine o_as rfl rfl ?_
    refine o_as rfl rfl ?_
    refine o_nil (q_then (c_seq (c_region ?_)))
    refine o_as rfl rfl ?_
    refine o_nil (q_then (c_seq (c_seq (c_region ?_))))
    refine o_mv rfl rfl ?_
    refine o_mv rfl rfl ?_
    refine o_p (p_lookup2 (i := 1) (K := kInt) (ve := (fun z : Int => Vi z)) (m := m) (k := l[k]) (dflt := 0) rfl rfl rfl Tryz.underlying114 Tryz.underlying3 zv3) ?_
    refine o_mv rfl rfl ?_
    refine o_ex rfl rfl rfl ?_
    refine o_ex rfl rfl rfl ?_
    refine o_as rfl rfl ?_
    refine o_as rfl rfl ?_
    refine o_nil (q_then (c_seq (c_region ?_)))
    refine o_mv rfl rfl ?_
    refine o_p (p_not (b := (AL.get m (l[k])).isSome) rfl) ?_
    refine o_nil (q_then ?_)
    refine c_cond rfl (fun hc13 => ?_) (fun hc13 => ?_)
    ·simp only [Bool.not_eq_true'] at hc13
     refine c_seq (c_region ?_)
     refine o_mv rfl rfl ?_
     refine o_p (p_addb rfl rfl (by omega)) ?_
     refine o_as rfl rfl ?_
     refine o_nil (q_then (c_seq (c_region ?_)))
     refine o_mv rfl rfl ?_
     refine o_p (p_len_map (i := 1) (K := kInt) (ve := (fun z : Int => Vi z)) (m := m) rfl rfl rfl Tryz.underlying114) ?_
     refine o_mv rfl rfl ?_
     refine o_p (p_eq rfl rfl) ?_
     refine o_nil (q_then ?_)
     refine c_cond rfl (fun hc14 => ?_) (fun hc14 => ?_)
     ·simp only [beq_iff_eq] at hc14
      refine c_seq (c_region ?_)
      refine o_mv rfl rfl ?_
      refine o_call0 (v := Vi (Opt.far m)) rfl (farthest_ok m B9 (by first | assumption | exact hI.pos)) hf68 (fun w hw => rmap_own (i := 1) rfl w hw) rfl ?_
      refine o_as rfl rfl ?_
      refine o_nil (q_then (c_region ?_))
      refine o_mv rfl rfl ?_
      refine o_mv rfl rfl ?_
      refine o_delete (i := 1) (K := kInt) (ve := (fun z : Int => Vi z)) (m := m) (k := (Opt.far m)) rfl rfl rfl rfl Tryz.underlying114 Tryz.underlying3 ?_
      refine o_nil (q_then (c_seq (c_region ?_)))
      refine o_mv rfl rfl ?_
      refine o_mv rfl rfl ?_
      refine o_mv rfl rfl ?_
      refine o_mv rfl rfl ?_
      refine o_p (p_indexAddr (L := (Opt.nexts l)) (T := tInt) (i := (k : Int)) rfl rfl (rd_own (i := 2) rfl) Tryz.underlying26 sz3 (by omega) (by omega)) ?_
      refine o_p (p_loadE1 (i := k) (T := tInt) (L := (Opt.nexts l)) (v := Vi ((Opt.nexts l)[k])) rfl (rd_own (i := 2) rfl) (by first | assumption | omega) sh3 rfl) ?_
      refine o_mapUpdate (i := 1) (K := kInt) (ve := (fun z : Int => Vi z)) (m := (AL.del m (Opt.far m))) (k := l[k]) (v := (Opt.nexts l)[k]) rfl rfl rfl rfl Tryz.underlying114 Tryz.underlying3 ?_
      refine o_nil (q_then (c_region ?_))
      refine o_mv rfl rfl ?_
      refine o_mv rfl rfl ?_
      refine o_buildSlice (m := 1) (T := tInt) (L := [(Opt.far m)]) (vs := [Vi (Opt.far m)]) rfl rfl rfl rfl Tryz.underlying26 sz3 (by decide) ze3 rfl (by decide) rfl (fun S15 a16 => ?_)
      refine o_append (i := 1) (L := out) (M := [(Opt.far m)]) (T := tInt) rfl rfl rfl (rd_own (i := 0) rfl) Tryz.underlying26 Tryz.underlying26 (by intro k h; cases h) el3 (by intro z; simp [tInt, one1]) (by decide) (by first | omega | (simp only [List.length_cons, List.length_nil]; omega) | (simp only [List.length_append, List.length_cons, List.length_nil, List.length_take, List.length_drop]; omega)) rfl (fun a18 c19 S20 => ?_)
      refine o_as rfl rfl ?_
      refine o_nil ?_
      refine q_block_normal (q_then ?_)
      refine c_region ?_
      refine o_p (p_addb rfl rfl (by omega)) ?_
      refine o_mv rfl rfl ?_
      refine o_nil ?_
      refine q_round hK11 ((misses + 1), (out ++ [(Opt.far m)]), a18, c19, S20, k + 1, (AL.set (AL.del m (Opt.far m)) (l[k]) ((Opt.nexts l)[k]))) ?_ ?_ ?_ ?_
      ·clear hK11
       first | exact hI.hit hrm.1 (by omega) (by assumption) hnx | exact hI.evict hrm.1 (by omega) (by assumption) (by assumption) hnx | exact hI.add hrm.1 (by omega) (by assumption) (by assumption) hnx
      ·(try dsimp only); omega
      ·exact sr (sr (sr (sr (sr (sr (sr (sr (Sub.nil _))))))))
      ·exact pk [1, 2, 3, 4]
     ·simp only [beq_eq_false_iff_ne, ne_eq] at hc14
      refine c_skip (q_then (c_seq (c_region ?_)))
      refine o_mv rfl rfl ?_
      refine o_mv rfl rfl ?_
      refine o_mv rfl rfl ?_
      refine o_mv rfl rfl ?_
      refine o_p (p_indexAddr (L := (Opt.nexts l)) (T := tInt) (i := (k : Int)) rfl rfl (rd_own (i := 2) rfl) Tryz.underlying26 sz3 (by omega) (by omega)) ?_
      refine o_p (p_loadE1 (i := k) (T := tInt) (L := (Opt.nexts l)) (v := Vi ((Opt.nexts l)[k])) rfl (rd_own (i := 2) rfl) (by first | assumption | omega) sh3 rfl) ?_
      refine o_mapUpdate (i := 1) (K := kInt) (ve := (fun z : Int => Vi z)) (m := m) (k := l[k]) (v := (Opt.nexts l)[k]) rfl rfl rfl rfl Tryz.underlying114 Tryz.underlying3 ?_
      refine o_nil (q_then (c_region ?_))
      refine o_mv rfl rfl ?_
      refine o_mv rfl rfl ?_
      refine o_buildSlice (m := 1) (T := tInt) (L := [(-1)]) (vs := [Vi (-1)]) rfl rfl rfl rfl Tryz.underlying26 sz3 (by decide) ze3 rfl (by decide) rfl (fun S21 a22 => ?_)
      refine o_append (i := 1) (L := out) (M := [(-1)]) (T := tInt) rfl rfl rfl (rd_own (i := 0) rfl) Tryz.underlying26 Tryz.underlying26 (by intro k h; cases h) el3 (by intro z; simp [tInt, one1]) (by decide) (by first | omega | (simp only [List.length_cons, List.length_nil]; omega) | (simp only [List.length_append, List.length_cons, List.length_nil, List.length_take, List.length_drop]; omega)) rfl (fun a24 c25 S26 => ?_)
      refine o_as rfl rfl ?_
      refine o_nil ?_
      refine q_block_normal (q_then ?_)
      refine c_region ?_
      refine o_p (p_addb rfl rfl (by omega)) ?_
      refine o_mv rfl rfl ?_
      refine o_nil ?_
      refine q_round hK11 ((misses + 1), (out ++ [(-1)]), a24, c25, S26, k + 1, (AL.set m (l[k]) ((Opt.nexts l)[k]))) ?_ ?_ ?_ ?_
      ·clear hK11
       first | exact hI.hit hrm.1 (by omega) (by assumption) hnx | exact hI.evict hrm.1 (by omega) (by assumption) (by assumption) hnx | exact hI.add hrm.1 (by omega) (by assumption) (by assumption) hnx
      ·(try dsimp only); omega
      ·exact sr (sr (sr (sr (sr (sr (sr (sr (Sub.nil _))))))))
      ·exact pk [1, 2, 3, 4]
    ·simp only [Bool.not_eq_false'] at hc13
     refine c_skip (q_then (c_seq (c_region ?_)))
     refine o_mv rfl rfl ?_
     refine o_mv rfl rfl ?_
     refine o_mv rfl rfl ?_
     refine o_mv rfl rfl ?_
     refine o_p (p_indexAddr (L := (Opt.nexts l)) (T := tInt) (i := (k : Int)) rfl rfl (rd_own (i := 2) rfl) Tryz.underlying26 sz3 (by omega) (by omega)) ?_
     refine o_p (p_loadE1 (i := k) (T := tInt) (L := (Opt.nexts l)) (v := Vi ((Opt.nexts l)[k])) rfl (rd_own (i := 2) rfl) (by first | assumption | omega) sh3 rfl) ?_
     refine o_mapUpdate (i := 1) (K := kInt) (ve := (fun z : Int => Vi z)) (m := m) (k := l[k]) (v := (Opt.nexts l)[k]) rfl rfl rfl rfl Tryz.underlying114 Tryz.underlying3 ?_
     refine o_nil (q_then (c_region ?_))
     refine o_mv rfl rfl ?_
     refine o_mv rfl rfl ?_
     refine o_buildSlice (m := 1) (T := tInt) (L := [(-1)]) (vs := [Vi (-1)]) rfl rfl rfl rfl Tryz.underlying26 sz3 (by decide) ze3 rfl (by decide) rfl (fun S27 a28 => ?_)
     refine o_append (i := 1) (L := out) (M := [(-1)]) (T := tInt) rfl rfl rfl (rd_own (i := 0) rfl) Tryz.underlying26 Tryz.underlying26 (by intro k h; cases h) el3 (by intro z; simp [tInt, one1]) (by decide) (by first | omega | (simp only [List.length_cons, List.length_nil]; omega) | (simp only [List.length_append, List.length_cons, List.length_nil, List.length_take, List.length_drop]; omega)) rfl (fun a30 c31 S32 => ?_)
     refine o_as rfl rfl ?_
     refine o_nil ?_
     refine q_block_normal (q_then ?_)
     refine c_region ?_
     refine o_p (p_addb rfl rfl (by omega)) ?_
     refine o_mv rfl rfl ?_
     refine o_nil ?_
     refine q_round hK11 (misses, (out ++ [(-1)]), a30, c31, S32, k + 1, (AL.set m (l[k]) ((Opt.nexts l)[k]))) ?_ ?_ ?_ ?_
     ·clear hK11
      first | exact hI.hit hrm.1 (by omega) (by assumption) hnx | exact hI.evict hrm.1 (by omega) (by assumption) (by assumption) hnx | exact hI.add hrm.1 (by omega) (by assumption) (by assumption) hnx
     ·(try dsimp only); omega
     ·exact sr (sr (sr (sr (sr (sr (sr (sr (Sub.nil _))))))))
     ·exact pk [1, 2, 3, 4]
   ·simp only [decide_eq_false_iff_not, Int.not_lt] at hc12
    have hdn := hI.done (by omega)
    refine c_exit ?_
    refine q_then_exit (q_then_exit (q_block_exit (q_then ?_)))
    refine c_seq (c_region ?_)
    refine o_mv rfl rfl ?_
    refine o_mv rfl rfl ?_
    refine o_as rfl rfl ?_
    refine o_as rfl rfl ?_
    refine o_as rfl rfl ?_
    refine o_nil (q_then (c_ret ?_))
    obtain ⟨hv1, hv2⟩ : _ ∧ _ := by first | exact Opt.ev2 (room := room) hbad.1 hbad.2 | exact Opt.ev3 (room := room) htr hrk | exact Opt.ev1 (room := room) (by assumption)
    have hr0 : (out : List Int) = ((Opt.ev l room).1) := by
     first | (rw [hv1]; done) | exact hv2.symm | (rw [hv1, ← hdn]; done)
    have hr1 : (misses : Int) = ((Opt.ev l room).2) := by
     first | (rw [hv1]; done) | exact hv2.symm | (rw [hv1, ← hdn]; done)
    have hr2 : (0 : Int) = (Opt.evErr l room) := by
     first | (rw [hv1]; done) | exact hv2.symm | (rw [hv1, ← hdn]; done)
    refine q_endM (p := (aout, cout)) Sout (rt3 rfl (r_tmp rfl) (r_tmp rfl) (r_tmp rfl)) (i := 3) rfl ?_ ?_ ?_
    ·exact (by have hcc := congr (congr (congrArg (fun (y0 : List Int) (y1 : Int) (y2 : Int) => (.tuple #[.slice aout y0.length cout, .int .i64 y1, .int .i64 y2] : Value)) hr0) hr1) hr2; exact hcc)
    ·exact fun w hw => hw.above (i := 3) (j := 0) (by decide) rfl rfl
    ·intro w hw; exact Eq.mp (congrArg (fun y => SlO tInt _ w aout cout y) hr0) ((hw.at (i := 0) rfl).here)
end Go.Proofs.YtgkihbbeimhmbaaGreatDoor

/- The walks, printed by a program from the translation and a specification. -/
namespace Go.Proofs.YtgkihbbeimhmbaaGreatDoor
open Go.Sx Go.RowKit
set_option maxHeartbeats 8000000 in
set_option maxRecDepth 100000 in
theorem runs1_ok (l : List Int) (al : Option Addr) (cl : Nat) (room : Int) (hy1 : Lru.trace l = 0 ∧ 2 ≤ room ∧ room ≤ 40) : Fn0 Tryz.prog 27 [.slice al l.length cl, Vi room] (fun w => Rd tInt w al cl l) (Vi (Cmp.by_ l room 1)) := by
 refine fn0 (nt := 17) (F0 := [(0, .slice al l.length cl), (1, Vi room)]) Tryz.func27 rfl Tryz.ntmps27 rfl rfl (fun w0 hpre => ?_)
 have hl := hpre
 have hlhl := hl.2.1
 have h200 := (Lru.trace_ok.1 hy1.1).1
 have ht2 : room.tdiv 2 = room / 2 := Int.tdiv_eq_ediv_of_nonneg (by omega)
 refine c_seq (c_region ?_)
 refine o_as rfl rfl ?_
 refine o_nil (q_then (c_seq (c_region ?_)))
 refine o_mv rfl rfl ?_
 refine o_p (p_build (cells := [Vi room, .slice none 0 0]) fp33 ze33 rfl rfl) ?_
 refine o_mv rfl rfl ?_
 refine o_callM rfl (lrun_ok (⟨room, []⟩ : DCache) none 0 l al cl) hf9 (fun w hw => ⟨rd_nil w hw, (rd_base (i := 0) rfl hl) w hw⟩) rfl (fun _ _ _ _ ha hA => SlO.agree ha hA) ?_
 rintro ⟨a3, c4⟩ S1
 refine o_know (fun w hw => own_len (i := 0) (T := tInt) hw rfl) (fun hlr5 => ?_)
 refine o_mv rfl rfl ?_
 refine o_ex rfl rfl rfl ?_
 refine o_ex rfl rfl rfl ?_
 refine o_ex rfl rfl rfl ?_
 refine o_alloc ze33 rfl (fun B6 => ?_)
 refine o_storeN (i := 0) (vs := [Vi (((Lru.run (⟨room, []⟩ : DCache) l).1).room), .slice a3 (((Lru.run (⟨room, []⟩ : DCache) l).1).keys).length c4]) (cs' := [Vi (((Lru.run (⟨room, []⟩ : DCache) l).1).room), .slice a3 (((Lru.run (⟨room, []⟩ : DCache) l).1).keys).length c4]) rfl rfl rfl sz33 rfl rfl rfl rfl ?_
 refine o_as rfl rfl ?_
 refine o_as rfl rfl ?_
 refine o_nil (q_then (c_seq (c_region ?_)))
 refine o_mv rfl rfl ?_
 refine o_as rfl rfl ?_
 refine o_nil (q_then (c_ret ?_))
 have hr0 : (((Lru.run (⟨room, []⟩ : DCache) l).2) : Int) = (Cmp.by_ l room 1) := by
  rfl
 refine q_end0 (v := Vi ((Lru.run (⟨room, []⟩ : DCache) l).2)) (rt1 rfl (r_tmp rfl)) (i := 2) rfl ?_
 exact (by have hcc := congrArg (fun (y0 : Int) => (.int .i64 y0 : Value)) hr0; exact hcc)

set_option maxHeartbeats 8000000 in
set_option maxRecDepth 100000 in
theorem runs2_ok (l : List Int) (al : Option Addr) (cl : Nat) (room : Int) (hy1 : Lru.trace l = 0 ∧ 2 ≤ room ∧ room ≤ 40) : Fn0 Tryz.prog 28 [.slice al l.length cl, Vi room] (fun w => Rd tInt w al cl l) (Vi (Cmp.by_ l room 2)) := by
 refine fn0 (nt := 17) (F0 := [(0, .slice al l.length cl), (1, Vi room)]) Tryz.func28 rfl Tryz.ntmps28 rfl rfl (fun w0 hpre => ?_)
 have hl := hpre
 have hlhl := hl.2.1
 have h200 := (Lru.trace_ok.1 hy1.1).1
 have ht2 : room.tdiv 2 = room / 2 := Int.tdiv_eq_ediv_of_nonneg (by omega)
 refine c_seq (c_region ?_)
 refine o_as rfl rfl ?_
 refine o_nil (q_then (c_seq (c_region ?_)))
 refine o_mv rfl rfl ?_
 refine o_p (p_build (cells := [Vi room, Vi 0, .slice none 0 0]) fp62 ze62 rfl rfl) ?_
 refine o_mv rfl rfl ?_
 refine o_callM rfl (run_ok (⟨room, 0, []⟩ : DClock) none 0 l al cl) hf29 (fun w hw => ⟨rd_nil w hw, (rd_base (i := 0) rfl hl) w hw⟩) rfl (fun _ _ _ _ ha hA => SlO.agree ha hA) ?_
 rintro ⟨a3, c4⟩ S1
 refine o_know (fun w hw => own_len (i := 0) (T := tFrame) hw rfl) (fun hlr5 => ?_)
 refine o_mv rfl rfl ?_
 refine o_ex rfl rfl rfl ?_
 refine o_ex rfl rfl rfl ?_
 refine o_ex rfl rfl rfl ?_
 refine o_alloc ze62 rfl (fun B6 => ?_)
 refine o_storeN (i := 0) (vs := [Vi (((Clock.run (⟨room, 0, []⟩ : DClock) l).1).room), Vi (((Clock.run (⟨room, 0, []⟩ : DClock) l).1).hand), .slice a3 (((Clock.run (⟨room, 0, []⟩ : DClock) l).1).frames).length c4]) (cs' := [Vi (((Clock.run (⟨room, 0, []⟩ : DClock) l).1).room), Vi (((Clock.run (⟨room, 0, []⟩ : DClock) l).1).hand), .slice a3 (((Clock.run (⟨room, 0, []⟩ : DClock) l).1).frames).length c4]) rfl rfl rfl sz62 rfl rfl rfl rfl ?_
 refine o_as rfl rfl ?_
 refine o_as rfl rfl ?_
 refine o_nil (q_then (c_seq (c_region ?_)))
 refine o_mv rfl rfl ?_
 refine o_as rfl rfl ?_
 refine o_nil (q_then (c_ret ?_))
 have hr0 : (((Clock.run (⟨room, 0, []⟩ : DClock) l).2) : Int) = (Cmp.by_ l room 2) := by
  rfl
 refine q_end0 (v := Vi ((Clock.run (⟨room, 0, []⟩ : DClock) l).2)) (rt1 rfl (r_tmp rfl)) (i := 2) rfl ?_
 exact (by have hcc := congrArg (fun (y0 : Int) => (.int .i64 y0 : Value)) hr0; exact hcc)

set_option maxHeartbeats 8000000 in
set_option maxRecDepth 100000 in
theorem runs3_ok (l : List Int) (al : Option Addr) (cl : Nat) (room : Int) (hy1 : Lru.trace l = 0 ∧ 2 ≤ room ∧ room ≤ 40) : Fn0 Tryz.prog 30 [.slice al l.length cl, Vi room] (fun w => Rd tInt w al cl l) (Vi (Cmp.by_ l room 3)) := by
 refine fn0 (nt := 17) (F0 := [(0, .slice al l.length cl), (1, Vi room)]) Tryz.func30 rfl Tryz.ntmps30 rfl rfl (fun w0 hpre => ?_)
 have hl := hpre
 have hlhl := hl.2.1
 have h200 := (Lru.trace_ok.1 hy1.1).1
 have ht2 : room.tdiv 2 = room / 2 := Int.tdiv_eq_ediv_of_nonneg (by omega)
 refine c_seq (c_region ?_)
 refine o_as rfl rfl ?_
 refine o_nil (q_then (c_seq (c_region ?_)))
 refine o_mv rfl rfl ?_
 refine o_p (p_build (cells := [Vi room, .slice none 0 0]) fp67 ze67 rfl rfl) ?_
 refine o_mv rfl rfl ?_
 refine o_callM rfl (frun_ok (⟨room, []⟩ : DUses) none 0 l al cl) hf31 (fun w hw => ⟨rd_nil w hw, (rd_base (i := 0) rfl hl) w hw⟩) rfl (fun _ _ _ _ ha hA => SlO.agree ha hA) ?_
 rintro ⟨a3, c4⟩ S1
 refine o_know (fun w hw => own_len (i := 0) (T := tUse) hw rfl) (fun hlr5 => ?_)
 refine o_mv rfl rfl ?_
 refine o_ex rfl rfl rfl ?_
 refine o_ex rfl rfl rfl ?_
 refine o_ex rfl rfl rfl ?_
 refine o_alloc ze67 rfl (fun B6 => ?_)
 refine o_storeN (i := 0) (vs := [Vi (((Lfu.run (⟨room, []⟩ : DUses) l).1).room), .slice a3 (((Lfu.run (⟨room, []⟩ : DUses) l).1).list).length c4]) (cs' := [Vi (((Lfu.run (⟨room, []⟩ : DUses) l).1).room), .slice a3 (((Lfu.run (⟨room, []⟩ : DUses) l).1).list).length c4]) rfl rfl rfl sz67 rfl rfl rfl rfl ?_
 refine o_as rfl rfl ?_
 refine o_as rfl rfl ?_
 refine o_nil (q_then (c_seq (c_region ?_)))
 refine o_mv rfl rfl ?_
 refine o_as rfl rfl ?_
 refine o_nil (q_then (c_ret ?_))
 have hr0 : (((Lfu.run (⟨room, []⟩ : DUses) l).2) : Int) = (Cmp.by_ l room 3) := by
  rfl
 refine q_end0 (v := Vi ((Lfu.run (⟨room, []⟩ : DUses) l).2)) (rt1 rfl (r_tmp rfl)) (i := 2) rfl ?_
 exact (by have hcc := congrArg (fun (y0 : Int) => (.int .i64 y0 : Value)) hr0; exact hcc)

set_option maxHeartbeats 8000000 in
set_option maxRecDepth 100000 in
theorem runs4_ok (l : List Int) (al : Option Addr) (cl : Nat) (room : Int) (hy1 : Lru.trace l = 0 ∧ 2 ≤ room ∧ room ≤ 40) : Fn0 Tryz.prog 32 [.slice al l.length cl, Vi room] (fun w => Rd tInt w al cl l) (Vi (Cmp.by_ l room 4)) := by
 refine fn0 (nt := 22) (F0 := [(0, .slice al l.length cl), (1, Vi room)]) Tryz.func32 rfl Tryz.ntmps32 rfl rfl (fun w0 hpre => ?_)
 have hl := hpre
 have hlhl := hl.2.1
 have h200 := (Lru.trace_ok.1 hy1.1).1
 have ht2 : room.tdiv 2 = room / 2 := Int.tdiv_eq_ediv_of_nonneg (by omega)
 refine c_seq (c_region ?_)
 refine o_as rfl rfl ?_
 refine o_nil (q_then (c_seq (c_region ?_)))
 refine o_mv rfl rfl ?_
 refine o_p (p_quob (p := room) (q := 2) rfl rfl (by decide) (by omega)) ?_
 refine o_mv rfl rfl ?_
 refine o_mv rfl rfl ?_
 refine o_p (p_quob (p := room) (q := 2) rfl rfl (by decide) (by omega)) ?_
 refine o_p (p_subb rfl rfl (by omega)) ?_
 refine o_p (p_build (cells := [Vi (room.tdiv 2), Vi (room - (room.tdiv 2)), .slice none 0 0, .slice none 0 0]) fp71 ze71 rfl rfl) ?_
 refine o_mv rfl rfl ?_
 refine o_callM rfl (srun_ok (⟨(room.tdiv 2), (room - (room.tdiv 2)), [], []⟩ : DHalls) none 0 none 0 l al cl) hf33 (fun w hw => ⟨rd_nil w hw, rd_nil w hw, (rd_base (i := 0) rfl hl) w hw⟩) rfl (fun _ _ _ _ ha hA => ⟨SlR.agree ha hA.1, SlR.agree ha hA.2⟩) ?_
 rintro ⟨a3, c4, a5, c6⟩ S1
 refine o_know (fun w hw => (hw.at (i := 0) rfl).here.1.2.1) (fun hlr7 => ?_)
 refine o_know (fun w hw => (hw.at (i := 0) rfl).here.2.2.1) (fun hlr8 => ?_)
 refine o_mv rfl rfl ?_
 refine o_ex rfl rfl rfl ?_
 refine o_ex rfl rfl rfl ?_
 refine o_ex rfl rfl rfl ?_
 refine o_alloc ze71 rfl (fun B9 => ?_)
 refine o_storeN (i := 0) (vs := [Vi (((Seg.run (⟨(room.tdiv 2), (room - (room.tdiv 2)), [], []⟩ : DHalls) l).1).first), Vi (((Seg.run (⟨(room.tdiv 2), (room - (room.tdiv 2)), [], []⟩ : DHalls) l).1).second), .slice a3 (((Seg.run (⟨(room.tdiv 2), (room - (room.tdiv 2)), [], []⟩ : DHalls) l).1).young).length c4, .slice a5 (((Seg.run (⟨(room.tdiv 2), (room - (room.tdiv 2)), [], []⟩ : DHalls) l).1).old).length c6]) (cs' := [Vi (((Seg.run (⟨(room.tdiv 2), (room - (room.tdiv 2)), [], []⟩ : DHalls) l).1).first), Vi (((Seg.run (⟨(room.tdiv 2), (room - (room.tdiv 2)), [], []⟩ : DHalls) l).1).second), .slice a3 (((Seg.run (⟨(room.tdiv 2), (room - (room.tdiv 2)), [], []⟩ : DHalls) l).1).young).length c4, .slice a5 (((Seg.run (⟨(room.tdiv 2), (room - (room.tdiv 2)), [], []⟩ : DHalls) l).1).old).length c6]) rfl rfl rfl sz71 rfl rfl rfl rfl ?_
 refine o_as rfl rfl ?_
 refine o_as rfl rfl ?_
 refine o_nil (q_then (c_seq (c_region ?_)))
 refine o_mv rfl rfl ?_
 refine o_as rfl rfl ?_
 refine o_nil (q_then (c_ret ?_))
 have hr0 : (((Seg.run (⟨(room.tdiv 2), (room - (room.tdiv 2)), [], []⟩ : DHalls) l).2) : Int) = (Cmp.by_ l room 4) := by
  rfl
 refine q_end0 (v := Vi ((Seg.run (⟨(room.tdiv 2), (room - (room.tdiv 2)), [], []⟩ : DHalls) l).2)) (rt1 rfl (r_tmp rfl)) (i := 2) rfl ?_
 exact (by have hcc := congrArg (fun (y0 : Int) => (.int .i64 y0 : Value)) hr0; exact hcc)

set_option maxHeartbeats 8000000 in
set_option maxRecDepth 100000 in
theorem runs5_ok (l : List Int) (al : Option Addr) (cl : Nat) (room : Int) (hy1 : Lru.trace l = 0 ∧ 2 ≤ room ∧ room ≤ 40) : Fn0 Tryz.prog 34 [.slice al l.length cl, Vi room] (fun w => Rd tInt w al cl l) (Vi (Cmp.by_ l room 5)) := by
 refine fn0 (nt := 19) (F0 := [(0, .slice al l.length cl), (1, Vi room)]) Tryz.func34 rfl Tryz.ntmps34 rfl rfl (fun w0 hpre => ?_)
 have hl := hpre
 have hlhl := hl.2.1
 have h200 := (Lru.trace_ok.1 hy1.1).1
 have ht2 : room.tdiv 2 = room / 2 := Int.tdiv_eq_ediv_of_nonneg (by omega)
 have hev := Opt.ev_bd2 hy1.1 (room := room) (by omega)
 refine c_seq (c_region ?_)
 refine o_as rfl rfl ?_
 refine o_nil (q_then (c_seq (c_region ?_)))
 refine o_mv rfl rfl ?_
 refine o_mv rfl rfl ?_
 refine o_callM rfl (oevict_ok l al cl room) hf35 (fun w hw => (rd_base (i := 0) rfl hl) w hw) rfl (fun _ _ _ _ ha hA => SlO.agree ha hA) ?_
 rintro ⟨a3, c4⟩ S1
 refine o_know (fun w hw => own_len (i := 0) (T := tInt) hw rfl) (fun hlr5 => ?_)
 refine o_mv rfl rfl ?_
 refine o_ex rfl rfl rfl ?_
 refine o_ex rfl rfl rfl ?_
 refine o_ex rfl rfl rfl ?_
 refine o_as rfl rfl ?_
 refine o_as rfl rfl ?_
 refine o_as rfl rfl ?_
 refine o_nil (q_then (c_seq (c_region ?_)))
 refine o_mv rfl rfl ?_
 refine o_p (p_len_slice rfl rfl Tryz.underlying26) ?_
 refine o_mv rfl rfl ?_
 refine o_p (p_subb rfl rfl (by omega)) ?_
 refine o_as rfl rfl ?_
 refine o_nil (q_then (c_ret ?_))
 have hr0 : (((l.length : Int) - ((Opt.ev l room).2)) : Int) = (Cmp.by_ l room 5) := by
  rfl
 refine q_end0 (v := Vi ((l.length : Int) - ((Opt.ev l room).2))) (rt1 rfl (r_tmp rfl)) (i := 1) rfl ?_
 exact (by have hcc := congrArg (fun (y0 : Int) => (.int .i64 y0 : Value)) hr0; exact hcc)

set_option maxHeartbeats 8000000 in
set_option maxRecDepth 100000 in
theorem runs_ok  : FnM Tryz.prog 15 [] (fun _ => True) (Option Addr × Nat) (fun p => .slice p.1 ([27, 28, 30, 32, 34]).length p.2) (fun p S w => SlO tFun S w p.1 p.2 ([27, 28, 30, 32, 34])) := by
 refine fnM (nt := 2) (F0 := []) Tryz.func15 rfl Tryz.ntmps15 rfl rfl (fun w0 hpre => ?_)
 refine c_seq (c_region ?_)
 refine o_as rfl rfl ?_
 refine o_nil (q_then (c_seq (c_region ?_)))
 refine o_buildSlice (m := 5) (T := tFun) (L := [27, 28, 30, 32, 34]) (vs := [.func (.func 27) #[] #[], .func (.func 28) #[] #[], .func (.func 30) #[] #[], .func (.func 32) #[] #[], .func (.func 34) #[] #[]]) rfl rfl rfl rfl Tryz.underlying43 sz45 (by decide) ze45 rfl (by decide) rfl (fun S1 a2 => ?_)
 refine o_as rfl rfl ?_
 refine o_nil (q_then (c_ret ?_))
 refine q_endM (p := (a2, [27, 28, 30, 32, 34].length)) S1 (rt1 rfl (r_tmp rfl)) (i := 1) rfl ?_ ?_ ?_
 ·exact rfl
 ·exact fun w hw => hw.above (i := 1) (j := 0) (by decide) rfl rfl
 ·intro w hw; exact (hw.at (i := 0) rfl).here
set_option maxRecDepth 100000 in
theorem runsAt_ok (l : List Int) (al : Option Addr) (cl : Nat) (room : Int) (hy : Lru.trace l = 0 ∧ 2 ≤ room ∧ room ≤ 40) (i : Nat) (hi : i < 5) : Fn0 Tryz.prog ([27, 28, 30, 32, 34].getD i default) [.slice al l.length cl, Vi room] (fun w => Rd tInt w al cl l) (Vi (Cmp.by_ l room ((i : Int) + 1))) := by
 match i, hi with
 | 0, _ => exact runs1_ok l al cl room hy
 | 1, _ => exact runs2_ok l al cl room hy
 | 2, _ => exact runs3_ok l al cl room hy
 | 3, _ => exact runs4_ok l al cl room hy
 | 4, _ => exact runs5_ok l al cl room hy
theorem runsAt2_ok (l : List Int) (al : Option Addr) (cl : Nat) (room : Int) (hy : Lru.trace l = 0 ∧ 2 ≤ room ∧ room ≤ 40) (n : Int) (hn : 1 ≤ n ∧ n ≤ 5) : Fn0 Tryz.prog ([27, 28, 30, 32, 34].getD (n - 1).toNat default) [.slice al l.length cl, Vi room] (fun w => Rd tInt w al cl l) (Vi (Cmp.by_ l room n)) := by
 have h := runsAt_ok l al cl room hy (n - 1).toNat (by omega)
 rw [show (((n - 1).toNat : Nat) : Int) + 1 = n by omega] at h
 exact h
theorem runsAt_has (i : Nat) (hi : i < 5) : HasFn Tryz.prog ([27, 28, 30, 32, 34].getD i default) := by
 match i, hi with
 | 0, _ => exact hf27
 | 1, _ => exact hf28
 | 2, _ => exact hf30
 | 3, _ => exact hf32
 | 4, _ => exact hf34

set_option maxHeartbeats 8000000 in
set_option maxRecDepth 100000 in
theorem cpcheck_ok (l : List Int) (al : Option Addr) (cl : Nat) (room : Int) : Fn0 Tryz.prog 14 [.slice al l.length cl, Vi room] (fun w => Rd tInt w al cl l) (Vi (Cmp.check l room)) := by
 refine fn0 (nt := 19) (F0 := [(0, .slice al l.length cl), (1, Vi room)]) Tryz.func14 rfl Tryz.ntmps14 rfl rfl (fun w0 hpre => ?_)
 have hl := hpre
 have hlhl := hl.2.1
 refine c_seq (c_region ?_)
 refine o_as rfl rfl ?_
 refine o_nil (q_then (c_seq (c_region ?_)))
 refine o_mv rfl rfl ?_
 refine o_call0 (v := Vi (Lru.trace l)) rfl (checkTrace_ok l al cl) hf17 (fun w hw => (rd_base (i := 0) rfl hl) w hw) rfl ?_
 refine o_as rfl rfl ?_
 refine o_nil (q_then (c_seq (c_seq (c_region ?_))))
 refine o_mv rfl rfl ?_
 refine o_p (p_eq rfl rfl) ?_
 refine o_mv rfl rfl ?_
 refine o_and (p := 17) 7 (decide (room < 2) || decide (40 < room)) ?_ ?_ ?_
 ·intro hb1 hk
  simp only [beq_iff_eq] at hb1
  refine o_unguard 10 rfl rfl ?_
  refine o_mv rfl rfl ?_
  refine o_unguard 10 rfl rfl ?_
  refine o_p (p_lt rfl rfl) ?_
  refine o_unguard 10 rfl rfl ?_
  refine o_mv rfl rfl ?_
  refine o_or (p := 16) 3 (decide (40 < room)) ?_ ?_ ?_
  ·intro hb2 hk
   simp only [decide_eq_false_iff_not, Int.not_lt] at hb2
   refine o_unguard 13 rfl rfl ?_
   refine o_mv rfl rfl ?_
   refine o_unguard 13 rfl rfl ?_
   refine o_p (p_gt rfl rfl) ?_
   refine o_unguard 10 rfl rfl ?_
   refine o_pf rfl rfl rfl ?_
   exact o_sub (sr (Sub.skip rfl (Sub.skip rfl (Sub.skip rfl (Sub.skip rfl (Sub.refl _)))))) hk
  ·intro hb2 hk
   refine o_guard_no rfl 13 rfl rfl rfl rfl rfl ?_
   refine o_guard_no rfl 13 rfl rfl rfl rfl rfl ?_
   refine o_unguard 10 rfl rfl ?_
   refine o_pt rfl rfl rfl ?_
   exact o_sub (sr (Sub.skip rfl (Sub.skip rfl (Sub.skip rfl (Sub.skip rfl (Sub.refl _)))))) hk
  refine o_pt rfl rfl rfl ?_
  exact o_sub (sr (Sub.skip rfl (Sub.skip rfl (Sub.skip rfl (Sub.skip rfl (Sub.skip rfl (Sub.refl _))))))) hk
 ·intro hb1 hk
  refine o_guard_no rfl 10 rfl rfl rfl rfl rfl ?_
  refine o_guard_no rfl 10 rfl rfl rfl rfl rfl ?_
  refine o_guard_no rfl 10 rfl rfl rfl rfl rfl ?_
  refine o_guard_no rfl 13 rfl rfl rfl rfl rfl ?_
  refine o_guard_no rfl 13 rfl rfl rfl rfl rfl ?_
  refine o_guard_no rfl 10 rfl rfl rfl rfl rfl ?_
  refine o_pf rfl rfl rfl ?_
  exact o_sub (sr (Sub.skip rfl (Sub.skip rfl (Sub.skip rfl (Sub.skip rfl (Sub.skip rfl (Sub.skip rfl (Sub.skip rfl (Sub.skip rfl (Sub.refl _)))))))))) hk
 refine o_nil (q_then ?_)
 refine c_cond rfl (fun hc3 => ?_) (fun hc3 => ?_)
 ·simp only [Bool.and_eq_true, beq_iff_eq, Bool.or_eq_true, decide_eq_true_eq] at hc3
  refine c_region ?_
  refine o_as rfl rfl ?_
  refine o_nil (q_then (c_seq (c_region ?_)))
  refine o_mv rfl rfl ?_
  refine o_as rfl rfl ?_
  refine o_nil (q_then (c_ret ?_))
  have hr0 : (3 : Int) = (Cmp.check l room) := by
   first | exact Cmp.chk1 (by omega) | exact Cmp.chk2 (by omega)
  refine q_end0 (v := Vi 3) (rt1 rfl (r_tmp rfl)) (i := 0) rfl ?_
  exact (by have hcc := congrArg (fun (y0 : Int) => (.int .i64 y0 : Value)) hr0; exact hcc)
 ·simp only [Bool.and_eq_false_iff, beq_eq_false_iff_ne, ne_eq, Bool.or_eq_false_iff, decide_eq_false_iff_not, Int.not_lt] at hc3
  refine c_skip (q_then (c_seq (c_region ?_)))
  refine o_mv rfl rfl ?_
  refine o_as rfl rfl ?_
  refine o_nil (q_then (c_ret ?_))
  have hr0 : ((Lru.trace l) : Int) = (Cmp.check l room) := by
   first | exact Cmp.chk1 (by omega) | exact Cmp.chk2 (by omega)
  refine q_end0 (v := Vi (Lru.trace l)) (rt1 rfl (r_tmp rfl)) (i := 0) rfl ?_
  exact (by have hcc := congrArg (fun (y0 : Int) => (.int .i64 y0 : Value)) hr0; exact hcc)

set_option maxHeartbeats 8000000 in
set_option maxRecDepth 100000 in
theorem cphits_ok (l : List Int) (al : Option Addr) (cl : Nat) (room : Int) : FnM Tryz.prog 7 [.slice al l.length cl, Vi room] (fun w => Rd tInt w al cl l) (Option Addr × Nat) (fun p => .tuple #[.slice p.1 (Cmp.hits l room).length p.2, Vi (Cmp.check l room)]) (fun p S w => SlO tInt S w p.1 p.2 (Cmp.hits l room)) := by
 refine fnM (nt := 31) (F0 := [(0, .slice al l.length cl), (1, Vi room)]) Tryz.func7 rfl Tryz.ntmps7 rfl rfl (fun w0 hpre => ?_)
 have hl := hpre
 have hlhl := hl.2.1
 refine c_seq (c_region ?_)
 refine o_as rfl rfl ?_
 refine o_as rfl rfl ?_
 refine o_nil (q_then (c_seq (c_seq (c_region ?_))))
 refine o_mv rfl rfl ?_
 refine o_mv rfl rfl ?_
 refine o_call0 (v := Vi (Cmp.check l room)) rfl (cpcheck_ok l al cl room) hf14 (fun w hw => (rd_base (i := 0) rfl hl) w hw) rfl ?_
 refine o_as rfl rfl ?_
 refine o_nil (q_then (c_seq (c_region ?_)))
 refine o_mv rfl rfl ?_
 refine o_p (p_ne rfl rfl) ?_
 refine o_nil (q_then ?_)
 refine c_cond rfl (fun hc1 => ?_) (fun hc1 => ?_)
 ·simp only [bne_iff_ne, ne_eq] at hc1
  refine c_seq (c_region ?_)
  refine o_mv rfl rfl ?_
  refine o_as rfl rfl ?_
  refine o_as rfl rfl ?_
  refine o_nil (q_then (c_ret ?_))
  refine q_then_ret ?_
  have hr0 : ([] : List Int) = (Cmp.hits l room) := by
   first | rfl | exact (Cmp.hits_bad (by assumption)).symm | exact hck.symm | (rw [Cmp.hits_ok hck, hI.2, show k = 5 by omega])
  refine q_endM (p := (none, 0)) (fun _ => False) (rt2 rfl (r_tmp rfl) (r_tmp rfl)) (i := 0) rfl ?_ ?_ ?_
  ·exact (by have hcc := congrArg (fun (y0 : List Int) => (.tuple #[.slice none y0.length 0, Vi (Cmp.check l room)] : Value)) hr0; exact hcc)
  ·intro w hw b hb; exact hb.elim
  ·intro w hw; exact Eq.mp (congrArg (fun y => SlO tInt _ w none 0 y) hr0) (SlO.nil tInt w)
 ·simp only [bne_eq_false_iff_eq] at hc1
  have hck := hc1
  have hok := Cmp.chk_ok.1 hc1
  have h200 := (Lru.trace_ok.1 hok.1).1
  have hl5 : [27, 28, 30, 32, 34].length = 5 := rfl
  refine c_skip (q_then (c_seq (c_region ?_)))
  refine o_as rfl rfl ?_
  refine o_nil (q_then (c_seq (c_seq (c_region ?_))))
  refine o_callM rfl (runs_ok ) hf15 (fun _ _ => trivial) rfl (fun _ _ _ _ ha hA => SlO.agree ha hA) ?_
  rintro ⟨a4, c5⟩ S2
  refine o_know (fun w hw => own_len (i := 0) (T := tFun) hw rfl) (fun hlr6 => ?_)
  refine o_p (p_len_slice rfl rfl Tryz.underlying43) ?_
  refine o_mv rfl rfl ?_
  refine o_nil (q_then (c_block ?_))
  refine c_ownNil tInt ?_
  refine c_loop (St := List Int × Option Addr × Nat × (Nat → Prop) × Nat)
   (fun ⟨out, aout, cout, Sout, k⟩ => [(0, .slice al l.length cl), (1, Vi room), (7, .slice aout out.length cout), (16, .slice a4 ([27, 28, 30, 32, 34]).length c5), (17, Vi (([27, 28, 30, 32, 34]).length : Int)), (18, Vi (k : Int))])
   (fun ⟨out, aout, cout, Sout, k⟩ => [own tInt Sout aout cout out, own tFun S2 a4 c5 ([27, 28, 30, 32, 34]), base w0])
   (fun ⟨out, aout, cout, Sout, k⟩ => k ≤ 5 ∧ out = (List.range k).map (fun i : Nat => Cmp.by_ l room ((i : Int) + 1)))
   (fun ⟨out, aout, cout, Sout, k⟩ => 5 - k)
   ([], none, 0, (fun _ => False), 0) ?_ (sr (sr (sr (sr (sr (sr (Sub.nil _))))))) (fun _ hw => hw) ?_
  ·exact ⟨Nat.zero_le _, rfl⟩
  rintro ⟨out, aout, cout, Sout, k⟩ hI K hK8
  have hol : out.length = k := by rw [hI.2]; simp
  show SC _ _ Tryz.prog 31 w0 _ _ [(0, .slice al l.length cl), (1, Vi room), (7, .slice aout out.length cout), (16, .slice a4 ([27, 28, 30, 32, 34]).length c5), (17, Vi (([27, 28, 30, 32, 34]).length : Int)), (18, Vi (k : Int))] [own tInt Sout aout cout out, own tFun S2 a4 c5 ([27, 28, 30, 32, 34]), base w0]
  refine c_seq (c_region ?_)
  refine o_p (p_lt rfl rfl) ?_
  refine o_nil (q_then (c_seq ?_))
  refine c_cond rfl (fun hc9 => ?_) (fun hc9 => ?_)
  ·simp only [decide_eq_true_eq] at hc9
   refine c_skip (q_then (c_seq (c_block (c_seq (c_region ?_)))))
   refine o_p (p_indexAddr (L := ([27, 28, 30, 32, 34])) (T := tFun) (i := (k : Int)) rfl rfl (rd_own (i := 1) rfl) Tryz.underlying43 sz45 (by omega) (by omega)) ?_
   refine o_p (p_loadE1 (i := k) (T := tFun) (L := ([27, 28, 30, 32, 34])) (v := .func (.func (([27, 28, 30, 32, 34]).getD k default)) #[] #[]) rfl (rd_own (i := 1) rfl) (by first | assumption | omega) sh45 (congrArg tFun.enc (getd_at (by first | assumption | omega) default))) ?_
   refine o_as rfl rfl ?_
   refine o_nil (q_then (c_region ?_))
   refine o_mv rfl rfl ?_
   refine o_mv rfl rfl ?_
   refine o_mv rfl rfl ?_
   refine o_mv rfl rfl ?_
   refine o_call0V (f := (([27, 28, 30, 32, 34]).getD k default)) (vs := [.slice al l.length cl, Vi room]) (caps := []) (v := Vi (Cmp.by_ l room ((k : Int) + 1))) rfl rfl (runsAt_ok l al cl room hok k (by omega)) (runsAt_has k (by omega)) (fun w hw => (rd_base (i := 2) rfl hl) w hw) rfl ?_
   refine o_buildSlice (m := 1) (T := tInt) (L := [(Cmp.by_ l room ((k : Int) + 1))]) (vs := [Vi (Cmp.by_ l room ((k : Int) + 1))]) rfl rfl rfl rfl Tryz.underlying26 sz3 (by decide) ze3 rfl (by decide) rfl (fun S10 a11 => ?_)
   refine o_append (i := 1) (L := out) (M := [(Cmp.by_ l room ((k : Int) + 1))]) (T := tInt) rfl rfl rfl (rd_own (i := 0) rfl) Tryz.underlying26 Tryz.underlying26 (by intro k h; cases h) el3 (by intro z; simp [tInt, one1]) (by decide) (by first | omega | (simp only [List.length_cons, List.length_nil]; omega) | (simp only [List.length_append, List.length_cons, List.length_nil, List.length_take, List.length_drop]; omega)) rfl (fun a13 c14 S15 => ?_)
   refine o_as rfl rfl ?_
   refine o_nil ?_
   refine q_block_normal (q_then ?_)
   refine c_region ?_
   refine o_p (p_addb rfl rfl (by omega)) ?_
   refine o_mv rfl rfl ?_
   refine o_nil ?_
   refine q_round hK8 ((out ++ [(Cmp.by_ l room ((k : Int) + 1))]), a13, c14, S15, k + 1) ?_ ?_ ?_ ?_
   ·clear hK8
    exact ⟨by omega, (congrArg (fun z => z ++ [_]) hI.2).trans (Cmp.map_next _ k)⟩
   ·(try dsimp only); omega
   ·exact sr (sr (sr (sr (sr (sr (Sub.nil _))))))
   ·exact pk [1, 2, 3]
  ·simp only [decide_eq_false_iff_not, Int.not_lt] at hc9
   refine c_exit ?_
   refine q_then_exit (q_then_exit (q_block_exit (q_then ?_)))
   refine c_seq (c_region ?_)
   refine o_mv rfl rfl ?_
   refine o_as rfl rfl ?_
   refine o_as rfl rfl ?_
   refine o_nil (q_then (c_ret ?_))
   have hr0 : (out : List Int) = (Cmp.hits l room) := by
    first | rfl | exact (Cmp.hits_bad (by assumption)).symm | exact hck.symm | (rw [Cmp.hits_ok hck, hI.2, show k = 5 by omega])
   have hr1 : (0 : Int) = (Cmp.check l room) := by
    first | rfl | exact (Cmp.hits_bad (by assumption)).symm | exact hck.symm | (rw [Cmp.hits_ok hck, hI.2, show k = 5 by omega])
   refine q_endM (p := (aout, cout)) Sout (rt2 rfl (r_tmp rfl) (r_tmp rfl)) (i := 2) rfl ?_ ?_ ?_
   ·exact (by have hcc := congr (congrArg (fun (y0 : List Int) (y1 : Int) => (.tuple #[.slice aout y0.length cout, .int .i64 y1] : Value)) hr0) hr1; exact hcc)
   ·exact fun w hw => hw.above (i := 2) (j := 0) (by decide) rfl rfl
   ·intro w hw; exact Eq.mp (congrArg (fun y => SlO tInt _ w aout cout y) hr0) ((hw.at (i := 0) rfl).here)
end Go.Proofs.YtgkihbbeimhmbaaGreatDoor
