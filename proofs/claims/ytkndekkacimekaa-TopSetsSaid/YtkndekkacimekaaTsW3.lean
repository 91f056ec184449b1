/- The walks, printed by a program from the translation and a specification. -/
import Derived.Test.YtkndekkacimekaaTsF
import Derived.Test.YtkndekkacimekaaOpLaw2
import Derived.Test.YtkndekkacimekaaWsPure
namespace Go.Proofs.Ytkndekkacimekaa
open Go.Sx Go.RowKit
set_option maxHeartbeats 8000000 in
set_option maxRecDepth 100000 in
theorem back1_ok (l : List Int) (al : Option Addr) (cl : Nat) (Bs : Nat) : ItOk Try.prog 106 [.pointer (some ⟨Bs, 0, none⟩)] (fun e w => ((box Bs [.slice al l.length cl] 30).A w ∧ (outer w [e]).S Bs) ∧ SlR tInt (outer w [e]).S w al cl l) Unit (fun x k => [.int .i64 ((l.length : Int) - 1 - (k : Int)), .int .i64 (l.getD (l.length - 1 - k) 0)]) (fun x k => []) (l.length) := by
  refine fnIt (nt := 19) (F1 := [(1, .pointer (some ⟨Bs, 0, none⟩))]) Try.func106 rfl Try.ntmps106 rfl rfl ?_
  intro l_ φ ψ e0 w0 hpre hφ Y
  obtain ⟨hb_Bs, hl⟩ := hpre
  have hlhl := hl.2.1
  refine c_seq ?_
  refine c_region ?_
  refine o_pure (p_loadR (v := .slice al l.length cl) rfl (rbox_outer (i := 0) rfl hb_Bs) sh30 rfl) rfl rfl rfl ?_
  refine o_pure (p_len_slice (len := l.length) rfl rfl Try.underlying30) rfl rfl rfl ?_
  refine o_pure (p_subb (p := (l.length : Int)) (q := 1) rfl rfl (by omega)) rfl rfl rfl ?_
  refine o_pure (p_assign (v := .int .i64 ((l.length : Int) - 1)) rfl) rfl rfl rfl ?_
  refine o_nil ?_
  refine q_then ?_
  refine c_block ?_
  refine c_loop (St := Int × Nat × Ent)
    (fun ⟨i, k, e⟩ => [(0, .func (.yield l_) #[] #[]), (1, .pointer (some ⟨Bs, 0, none⟩)), (3, .int .i64 i)])
    (fun ⟨i, k, e⟩ => [outer w0 [e0], e])
    (fun ⟨i, k, e⟩ => k ≤ l.length ∧ i = (l.length : Int) - 1 - (k : Int) ∧ φ k e)
    (fun ⟨i, k, e⟩ => (i + 1).toNat)
    (((l.length : Int) - 1), 0, e0) ?_ (Sub.cons rfl (Sub.cons rfl (Sub.cons rfl (Sub.nil _)))) (fun _ hw => hw) ?_
  · exact ⟨Nat.zero_le _, by omega, hφ⟩
  rintro ⟨i, k, e⟩ hI K hK1
  have hk1 := hI.1
  have hk2 := hI.2.1
  show SC _ _ Try.prog 19 w0 _ _ [(0, .func (.yield l_) #[] #[]), (1, .pointer (some ⟨Bs, 0, none⟩)), (3, .int .i64 i)] [outer w0 [e0], e]
  refine c_seq ?_
  refine c_seq ?_
  refine c_region ?_
  refine o_pure (p_move (v := .int .i64 i) rfl) rfl rfl rfl ?_
  refine o_pure (p_ge (p := i) (q := 0) rfl rfl) rfl rfl rfl ?_
  refine o_nil ?_
  refine q_then ?_
  refine c_cond (b := decide (0 ≤ i)) rfl (fun hc2 => ?_) (fun hc2 => ?_)
  · simp only [decide_eq_true_eq] at hc2
    refine c_skip ?_
    refine q_then ?_
    refine c_seq ?_
    refine c_block ?_
    refine c_seq ?_
    refine c_regionY ?_
    refine o_pure (p_move (v := .func (.yield l_) #[] #[]) rfl) rfl rfl rfl ?_
    refine o_pure (p_move (v := .int .i64 i) rfl) rfl rfl rfl ?_
    refine o_pure (p_loadR (v := .slice al l.length cl) rfl (rbox_outer (i := 0) rfl hb_Bs) sh30 rfl) rfl rfl rfl ?_
    refine o_pure (p_move (v := .int .i64 i) rfl) rfl rfl rfl ?_
    refine o_pure (p_indexAddr (L := l) (T := tInt) (i := i) rfl rfl (rd_outer (i := 0) rfl hl) Try.underlying30 sz3 (by omega) (by omega)) rfl rfl rfl ?_
    refine o_pure (p_loadE1 (i := i.toNat) (T := tInt) (L := l) (v := .int .i64 (l[i.toNat])) rfl (rd_outer (i := 0) rfl hl) (by first | assumption | omega) sh3 rfl) rfl rfl rfl ?_
    have hv : ([.int .i64 i, .int .i64 (l[i.toNat])] : List Value) = [.int .i64 ((l.length : Int) - 1 - (k : Int)), .int .i64 (l.getD (l.length - 1 - k) 0)] := Opt.back_vals hI.2.1 (by omega) (by omega)
    refine o_yield (l := l_) (vs := [.int .i64 i, .int .i64 (l[i.toNat])]) (φ := φ (k + 1)) (ψ := ψ) rfl rfl (fun W hW => by rw [hv]; exact Y () k e W (by omega) hI.2.2 hW) rfl (fun e_3 he4 => ?_) (fun e_3 he4 => ?_)
    · have hend := he4
      refine o_pure (p_not (b := true) rfl) rfl rfl rfl ?_
      refine o_nil ?_
      refine q_then ?_
      refine c_false rfl ?_
      refine c_skip ?_
      refine q_block_normal (q_then ?_)
      refine c_region ?_
      refine o_pure (p_move (v := .int .i64 i) rfl) rfl rfl rfl ?_
      refine o_pure (p_subb (p := i) (q := 1) rfl rfl (by omega)) rfl rfl rfl ?_
      refine o_pure (p_assign (v := .int .i64 (i - 1)) rfl) rfl rfl rfl ?_
      refine o_nil ?_
      refine q_round hK1 ((i - 1), k + 1, e_3) ?_ ?_ ?_ ?_
      · clear hK1
        exact ⟨by omega, by omega, hend⟩
      · (try dsimp only); omega
      · exact Sub.cons rfl (Sub.cons rfl (Sub.cons rfl (Sub.nil _)))
      · exact fun _ hw => HeapIs.pick hw [0, 1] (by decide) rfl
    · have hend := he4
      refine o_pure (p_not (b := false) rfl) rfl rfl rfl ?_
      refine o_nil ?_
      refine q_then ?_
      refine c_true rfl ?_
      refine c_ret ?_
      refine q_block_ret (q_then_ret (q_then_ret (q_block_ret ?_)))
      refine q_endI (e := e_3) (rt0 rfl) ?_ (fun w hw => hw.pick (H' := [outer w0 [e0], e_3]) [0, 1] (by decide) rfl)
      first | exact .inr hend | exact .inl (it_fin hI.2.2 (by omega))
  · simp only [decide_eq_false_iff_not, Int.not_le] at hc2
    refine c_exit ?_
    refine q_then_exit (q_then_exit (q_block_exit ?_))
    refine q_endI (e := e) (rt0 rfl) ?_ (fun w hw => hw.pick (H' := [outer w0 [e0], e]) [0, 1] (by decide) rfl)
    first | exact .inr hend | exact .inl (it_fin hI.2.2 (by omega))

set_option maxHeartbeats 8000000 in
set_option maxRecDepth 100000 in
theorem back_ok (l : List Int) (al : Option Addr) (cl : Nat) : FnX Try.prog 102 [.slice al l.length cl] [] (fun _ => True) (Nat) (fun p => .func (.func 106) #[] #[.pointer (some ⟨p, 0, none⟩)]) (fun p => [box p [.slice al l.length cl] 30]) := by
  refine fnX (nt := 4) (F0 := [(0, .slice al l.length cl)]) Try.func102 rfl Try.ntmps102 rfl rfl (fun w0 hpre => ?_)
  refine c_seq ?_
  refine c_region ?_
  refine o_box (v := .slice al l.length cl) rfl rfl (fun B1 => ?_)
  refine o_pure (p_assign (v := .nilFunc) rfl) rfl rfl rfl ?_
  refine o_nil ?_
  refine q_then ?_
  refine c_seq ?_
  refine c_region ?_
  refine o_pure (p_makeFunc (vs := [.pointer (some ⟨B1, 0, none⟩)]) rfl) rfl rfl rfl ?_
  refine o_pure (p_assign (v := .func (.func 106) #[] #[.pointer (some ⟨B1, 0, none⟩)]) rfl) rfl rfl rfl ?_
  refine o_nil ?_
  refine q_then ?_
  refine c_ret ?_
  refine q_endX (p := (B1)) (rt1 rfl (r_tmp rfl)) rfl (fun w hw => ?_)
  exact hw.pick (H' := [outer w0 [], box B1 [.slice al l.length cl] 30]) [1, 0] (by decide) rfl

set_option maxHeartbeats 8000000 in
set_option maxRecDepth 100000 in
theorem nexts_ok (l : List Int) (al : Option Addr) (cl : Nat) (hy1 : l.length ≤ 1000) : FnM Try.prog 78 [.slice al l.length cl] (fun w => Rd tInt w al cl l) (Option Addr × Nat) (fun p => .slice p.1 (Opt.nexts l).length p.2) (fun p S w => SlO tInt S w p.1 p.2 (Opt.nexts l)) := by
  refine fnMR (nt := 35) (F0 := [(0, .slice al l.length cl)]) Try.func78 rfl Try.ntmps78 rfl rfl (fun w0 hpre => ?_)
  have hl := hpre
  have hlhl := hl.2.1
  refine c_seq ?_
  refine c_region ?_
  refine o_box (v := .slice al l.length cl) rfl rfl (fun B1 => ?_)
  refine o_pure (p_assign (v := .slice none 0 0) rfl) rfl rfl rfl ?_
  refine o_nil ?_
  refine q_then ?_
  refine c_seq ?_
  refine c_region ?_
  refine o_pure (p_load (i := 0) (v := .slice al l.length cl) rfl rfl sh30 rfl) rfl rfl rfl ?_
  refine o_pure (p_len_slice (len := l.length) rfl rfl Try.underlying30) rfl rfl rfl ?_
  refine o_makeSlice (T := tInt) (m := (l.length : Int)) (z := 0) rfl rfl Try.underlying30 el3 ze3 rfl (by decide) (by omega) (by omega) rfl (fun S3 a2 => ?_)
  refine o_alloc ze30 rfl (fun B5 => ?_)
  refine o_store (i := 0) (v := .slice a2 (List.replicate ((l.length : Int).toNat) 0).length ((l.length : Int).toNat)) (cs' := [.slice a2 (List.replicate ((l.length : Int).toNat) 0).length ((l.length : Int).toNat)]) rfl rfl rfl sz30 rfl rfl rfl ?_
  refine o_nil ?_
  refine q_then ?_
  refine c_seq ?_
  refine c_region ?_
  refine o_makeMap (ν := Int) kInt (fun z : Int => .int .i64 z) rfl (fun B6 => ?_)
  refine o_alloc ze116 rfl (fun B7 => ?_)
  refine o_store (i := 0) (v := .map (some B6)) (cs' := [.map (some B6)]) rfl rfl rfl sz116 rfl rfl rfl ?_
  refine o_nil ?_
  refine q_then ?_
  refine c_seq ?_
  refine c_seq ?_
  refine c_region ?_
  refine o_pure (p_load (i := 4) (v := .slice al l.length cl) rfl rfl sh30 rfl) rfl rfl rfl ?_
  refine o_callX (pre := []) (R := [box B7 [.map (some B6)] 116, mapE kInt (fun z : Int => .int .i64 z) B6 ([]), box B5 [.slice a2 (List.replicate ((l.length : Int).toNat) 0).length ((l.length : Int).toNat)] 30, own tInt S3 a2 ((l.length : Int).toNat) (List.replicate ((l.length : Int).toNat) 0), box B1 [.slice al l.length cl] 30, base w0]) rfl (back_ok l al cl) hf102 rfl (fun _ _ => trivial) rfl ?_
  rintro B8
  refine o_asH (H' := [box B8 [.slice al l.length cl] 30, box B7 [.map (some B6)] 116, mapE kInt (fun z : Int => .int .i64 z) B6 ([]), box B5 [.slice a2 (List.replicate ((l.length : Int).toNat) 0).length ((l.length : Int).toNat)] 30, own tInt S3 a2 ((l.length : Int).toNat) (List.replicate ((l.length : Int).toNat) 0), box B1 [.slice al l.length cl] 30, base w0]) rfl ?_
  refine o_nil ?_
  refine q_then ?_
  refine c_block ?_
  refine c_rangeFunc (f := 106) (caps := [.pointer (some ⟨B8, 0, none⟩)]) (Pr := (fun e w => ((box B8 [.slice al l.length cl] 30).A w ∧ (outer w [e]).S B8) ∧ SlR tInt (outer w [e]).S w al cl l)) (X := Unit) (encs := (fun x k => [.int .i64 ((l.length : Int) - 1 - (k : Int)), .int .i64 (l.getD (l.length - 1 - k) 0)])) (E := (fun x k => [])) (N := l.length) rfl hf106 (back1_ok l al cl B8) (fun _ _ => rfl) (by decide) (St := List Int × Option Addr × Nat × (Nat → Prop) × List (Int × Int))
    (fun ⟨ol, aol, col, Sol, m⟩ => [mapE kInt (fun z : Int => .int .i64 z) B6 m, box B5 [.slice aol ol.length col] 30, own tInt Sol aol col ol])
    (fun k ⟨ol, aol, col, Sol, m⟩ => Opt.NInv l ol m k)
    (fun c ⟨ol, aol, col, Sol, m⟩ => False)
    [box B8 [.slice al l.length cl] 30, box B7 [.map (some B6)] 116, box B1 [.slice al l.length cl] 30, base w0]
    ((List.replicate ((l.length : Int).toNat) 0), a2, (l.length : Int).toNat, S3, []) ?_ ?_ ?_ ?_ ?_ ?_
  · exact Opt.NInv.start l
  · exact fun w hw => hw.pick (H' := [mapE kInt (fun z : Int => .int .i64 z) B6 ([]), box B5 [.slice a2 (List.replicate ((l.length : Int).toNat) 0).length ((l.length : Int).toNat)] 30, own tInt S3 a2 ((l.length : Int).toNat) (List.replicate ((l.length : Int).toNat) 0), box B8 [.slice al l.length cl] 30, box B7 [.map (some B6)] 116, box B1 [.slice al l.length cl] 30, base w0]) [2, 3, 4, 0, 1, 5, 6] (by decide) rfl
  · intro D e0 W1 hW1
    exact ⟨boxX (i := 2) (js := [0]) rfl (by decide) rfl W1 hW1, (rdX (i := 5) (js := [0]) rfl (by decide) rfl (fun _ hA => slR_base hl hA)) W1 hW1⟩
  · rintro l_ rc D e0 W1 hW1 x_ k ⟨ol, aol, col, Sol, m⟩ hk hI
    have hol := hI.len
    have hor0_1 : SlR tInt (outer W1 [e0]).S W1 al cl l := (rdX (i := 5) (js := [0]) rfl (by decide) rfl (fun _ hA => slR_base hl hA)) W1 hW1
    have hlhor0_1 := hor0_1.2.1
    have hobr0_B1 := boxX (i := 4) (B := B1) (cs := [.slice al l.length cl]) (U := 30) (js := [0]) (pre := [e0]) rfl (by decide) rfl W1 hW1
    have hobr0_B7 := boxX (i := 3) (B := B7) (cs := [.map (some B6)]) (U := 116) (js := [0]) (pre := [e0]) rfl (by decide) rfl W1 hW1
    refine c_seq ?_
    refine c_region ?_
    refine o_pure (p_assign (v := .int .i64 ((l.length : Int) - 1 - (k : Int))) rfl) rfl rfl rfl ?_
    refine o_nil ?_
    refine q_then ?_
    refine c_region ?_
    refine o_pure (p_assign (v := .int .i64 (l.getD (l.length - 1 - k) 0)) rfl) rfl rfl rfl ?_
    refine o_nil ?_
    refine q_begin (i := 1) rfl ?_
    refine c_block ?_
    refine c_seq ?_
    refine c_region ?_
    refine o_pure (p_loadR (v := .map (some B6)) rfl (rbox_outer (i := 0) rfl hobr0_B7) sh116 rfl) rfl rfl rfl ?_
    refine o_pure (p_move (v := .int .i64 (l.getD (l.length - 1 - k) 0)) rfl) rfl rfl rfl ?_
    refine o_pure (p_lookup2 (i := 2) (K := kInt) (ve := (fun z : Int => .int .i64 z)) (m := m) (k := (l.getD (l.length - 1 - k) 0)) (dflt := 0) rfl rfl rfl Try.underlying116 Try.underlying3 zv3) rfl rfl rfl ?_
    refine o_pure (p_move (v := .tuple #[.int .i64 ((AL.get m (l.getD (l.length - 1 - k) 0)).getD 0), .bool ((AL.get m (l.getD (l.length - 1 - k) 0)).isSome)]) rfl) rfl rfl rfl ?_
    refine o_pure (p_extract (vs := [.int .i64 ((AL.get m (l.getD (l.length - 1 - k) 0)).getD 0), .bool ((AL.get m (l.getD (l.length - 1 - k) 0)).isSome)]) (v := .int .i64 ((AL.get m (l.getD (l.length - 1 - k) 0)).getD 0)) rfl rfl) rfl rfl rfl ?_
    refine o_pure (p_extract (vs := [.int .i64 ((AL.get m (l.getD (l.length - 1 - k) 0)).getD 0), .bool ((AL.get m (l.getD (l.length - 1 - k) 0)).isSome)]) (v := .bool ((AL.get m (l.getD (l.length - 1 - k) 0)).isSome)) rfl rfl) rfl rfl rfl ?_
    refine o_pure (p_assign (v := .int .i64 ((AL.get m (l.getD (l.length - 1 - k) 0)).getD 0)) rfl) rfl rfl rfl ?_
    refine o_pure (p_assign (v := .bool ((AL.get m (l.getD (l.length - 1 - k) 0)).isSome)) rfl) rfl rfl rfl ?_
    refine o_nil ?_
    refine q_then ?_
    refine c_seq ?_
    refine c_seq ?_
    refine c_region ?_
    refine o_pure (p_move (v := .bool ((AL.get m (l.getD (l.length - 1 - k) 0)).isSome)) rfl) rfl rfl rfl ?_
    refine o_pure (p_not (b := (AL.get m (l.getD (l.length - 1 - k) 0)).isSome) rfl) rfl rfl rfl ?_
    refine o_nil ?_
    refine q_then ?_
    refine c_cond (b := (!(AL.get m (l.getD (l.length - 1 - k) 0)).isSome)) rfl (fun hc9 => ?_) (fun hc9 => ?_)
    · simp only [Bool.not_eq_true'] at hc9
      refine c_region ?_
      refine o_pure (p_loadR (v := .slice al l.length cl) rfl (rbox_outer (i := 0) rfl hobr0_B1) sh30 rfl) rfl rfl rfl ?_
      refine o_pure (p_len_slice (len := l.length) rfl rfl Try.underlying30) rfl rfl rfl ?_
      refine o_pure (p_assign (v := .int .i64 (l.length : Int)) rfl) rfl rfl rfl ?_
      refine o_nil ?_
      refine q_then ?_
      refine c_heldR hmix (by decide) (fun _ _ h => h) [outer W1 [e0], loopE l_ (recd rc .busy none), box B5 [.slice aol ol.length col] 30, ownE tInt Sol aol col (ol.length)] rfl rfl ?_
      refine h_take (i := 0) (ls := #[true, false, false, false, false, false, false, false, false]) rfl (by kernel_rfl) (by kernel_rfl) (by kernel_rfl) (fun _ _ _ h => h) (p_load (i := 2) (v := .slice aol ol.length col) rfl rfl sh30 rfl) rfl rfl rfl (fun _ hw => HeapIs.drop (HeapIs.toE (i := 4) (m := ol.length) (T := tInt) rfl (by simp only [List.length_set]) hw) (List.Sublist.cons_cons _ (List.Sublist.cons_cons _ (List.Sublist.cons _ (List.Sublist.cons_cons _ (List.Sublist.cons_cons _ (List.Sublist.slnil))))))) rfl ?_
      refine h_take (i := 1) (ls := #[true, true, false, false, false, false, false, false, false]) rfl (by kernel_rfl) (by kernel_rfl) (by kernel_rfl) (fun _ _ _ h => h) (p_move (v := .int .i64 ((l.length : Int) - 1 - (k : Int))) rfl) rfl rfl rfl (fun _ hw => HeapIs.drop (HeapIs.toE (i := 4) (m := ol.length) (T := tInt) rfl (by simp only [List.length_set]) hw) (List.Sublist.cons_cons _ (List.Sublist.cons_cons _ (List.Sublist.cons _ (List.Sublist.cons_cons _ (List.Sublist.cons_cons _ (List.Sublist.slnil))))))) rfl ?_
      refine h_take (i := 2) (ls := #[true, true, true, false, false, false, false, false, false]) rfl (by kernel_rfl) (by kernel_rfl) (by kernel_rfl) (fun _ _ _ h => h) (p_loadR (v := .map (some B6)) rfl (rbox_outer (i := 0) rfl hobr0_B7) sh116 rfl) rfl rfl rfl (fun _ hw => HeapIs.drop (HeapIs.toE (i := 4) (m := ol.length) (T := tInt) rfl (by simp only [List.length_set]) hw) (List.Sublist.cons_cons _ (List.Sublist.cons_cons _ (List.Sublist.cons _ (List.Sublist.cons_cons _ (List.Sublist.cons_cons _ (List.Sublist.slnil))))))) rfl ?_
      refine h_take (i := 3) (ls := #[true, true, true, true, false, false, false, false, false]) rfl (by kernel_rfl) (by kernel_rfl) (by kernel_rfl) (fun _ _ _ h => h) (p_move (v := .int .i64 (l.getD (l.length - 1 - k) 0)) rfl) rfl rfl rfl (fun _ hw => HeapIs.drop (HeapIs.toE (i := 4) (m := ol.length) (T := tInt) rfl (by simp only [List.length_set]) hw) (List.Sublist.cons_cons _ (List.Sublist.cons_cons _ (List.Sublist.cons _ (List.Sublist.cons_cons _ (List.Sublist.cons_cons _ (List.Sublist.slnil))))))) rfl ?_
      refine h_take (i := 4) (ls := #[true, true, true, true, true, false, false, false, false]) rfl (by kernel_rfl) (by kernel_rfl) (by kernel_rfl) (fun _ _ _ h => h) (p_move (v := .int .i64 (l.length : Int)) rfl) rfl rfl rfl (fun _ hw => HeapIs.drop (HeapIs.toE (i := 4) (m := ol.length) (T := tInt) rfl (by simp only [List.length_set]) hw) (List.Sublist.cons_cons _ (List.Sublist.cons_cons _ (List.Sublist.cons _ (List.Sublist.cons_cons _ (List.Sublist.cons_cons _ (List.Sublist.slnil))))))) rfl ?_
      refine h_take (i := 5) (ls := #[true, true, true, true, true, true, false, false, false]) rfl (by kernel_rfl) (by kernel_rfl) (by kernel_rfl) (fun _ _ _ h => h) (p_move (v := .int .i64 ((l.length : Int) - 1 - (k : Int))) rfl) rfl rfl rfl (fun _ hw => HeapIs.drop (HeapIs.toE (i := 4) (m := ol.length) (T := tInt) rfl (by simp only [List.length_set]) hw) (List.Sublist.cons_cons _ (List.Sublist.cons_cons _ (List.Sublist.cons _ (List.Sublist.cons_cons _ (List.Sublist.cons_cons _ (List.Sublist.slnil))))))) rfl ?_
      refine h_take (i := 6) (ls := #[true, true, true, true, true, true, true, false, false]) rfl (by kernel_rfl) (by kernel_rfl) (by kernel_rfl) (fun _ _ _ h => h) (p_indexAddrE (T := tInt) (i := ((l.length : Int) - 1 - (k : Int))) (j := 3) rfl rfl rfl Try.underlying30 sz3 (by omega) (by omega)) rfl rfl rfl (fun _ hw => HeapIs.drop (HeapIs.toE (i := 4) (m := ol.length) (T := tInt) rfl (by simp only [List.length_set]) hw) (List.Sublist.cons_cons _ (List.Sublist.cons_cons _ (List.Sublist.cons _ (List.Sublist.cons_cons _ (List.Sublist.cons_cons _ (List.Sublist.slnil))))))) rfl ?_
      refine h_one (i := 7) (ls := #[true, true, true, true, true, true, true, true, false]) (by kernel_rfl) rfl rfl ?_
      refine o_storeW (i := 4) (T := tInt) (idx := ((l.length : Int) - 1 - (k : Int)).toNat) (v := .int .i64 (l.length : Int)) (vs := [.int .i64 (l.length : Int)]) (z := (l.length : Int)) rfl rfl rfl rfl (by first | assumption | omega | (simp only [List.length_set]; omega)) sz3 rfl rfl rfl rfl (Sub.refl _) ?_
      refine o_nil ?_
      refine h_next (fun _ hw => HeapIs.drop (HeapIs.toE (i := 4) (m := ol.length) (T := tInt) rfl (by simp only [List.length_set]) hw) (List.Sublist.cons_cons _ (List.Sublist.cons_cons _ (List.Sublist.cons _ (List.Sublist.cons_cons _ (List.Sublist.cons_cons _ (List.Sublist.slnil))))))) ?_
      refine h_one (i := 8) (ls := #[true, true, true, true, true, true, true, true, true]) (by kernel_rfl) rfl rfl ?_
      refine o_mapUpdate (i := 2) (K := kInt) (ve := (fun z : Int => .int .i64 z)) (m := m) (k := (l.getD (l.length - 1 - k) 0)) (v := ((l.length : Int) - 1 - (k : Int))) rfl rfl rfl rfl Try.underlying116 Try.underlying3 ?_
      refine o_nil ?_
      refine h_next (fun _ hw => HeapIs.drop (HeapIs.toE (i := 4) (m := ol.length) (T := tInt) rfl (by simp only [List.length_set]) hw) (List.Sublist.cons_cons _ (List.Sublist.cons_cons _ (List.Sublist.cons _ (List.Sublist.cons_cons _ (List.Sublist.cons_cons _ (List.Sublist.slnil))))))) ?_
      refine h_done (by kernel_rfl) ?_
      refine q_cast (F' := []) (H := [outer W1 [e0], loopE l_ (recd rc .busy none), mapE kInt (fun z : Int => .int .i64 z) B6 (AL.set m (l.getD (l.length - 1 - k) 0) ((l.length : Int) - 1 - (k : Int))), box B5 [.slice aol ol.length col] 30, own tInt Sol aol col (ol.set (((l.length : Int) - 1 - (k : Int)).toNat) (l.length : Int))]) (H' := [outer W1 [e0], loopE l_ (recd rc .busy none), mapE kInt (fun z : Int => .int .i64 z) B6 (AL.set m (l.getD (l.length - 1 - k) 0) ((l.length : Int) - 1 - (k : Int))), box B5 [.slice aol (ol.set (((l.length : Int) - 1 - (k : Int)).toNat) (l.length : Int)).length col] 30, own tInt Sol aol col (ol.set (((l.length : Int) - 1 - (k : Int)).toNat) (l.length : Int))]) (Sub.nil _) (by simp only [List.length_set, List.length_reverse]) ?_
      refine q_block_normal ?_
      refine q_next ((ol.set (((l.length : Int) - 1 - (k : Int)).toNat) (l.length : Int)), aol, col, Sol, (AL.set m (l.getD (l.length - 1 - k) 0) ((l.length : Int) - 1 - (k : Int)))) ?_ (fun w hw => hw.pick (H' := [outer W1 [e0], loopE l_ (recd rc .busy none), mapE kInt (fun z : Int => .int .i64 z) B6 (AL.set m (l.getD (l.length - 1 - k) 0) ((l.length : Int) - 1 - (k : Int))), box B5 [.slice aol (ol.set (((l.length : Int) - 1 - (k : Int)).toNat) (l.length : Int)).length col] 30, own tInt Sol aol col (ol.set (((l.length : Int) - 1 - (k : Int)).toNat) (l.length : Int))]) [0, 1, 2, 3, 4] (by decide) rfl)
      first | exact hI.next hk rfl rfl (hI.some (by assumption)) | exact hI.next hk rfl rfl (hI.none (by assumption))
    · simp only [Bool.not_eq_false'] at hc9
      refine c_skip ?_
      refine q_then ?_
      refine c_heldR hmix (by decide) (fun _ _ h => h) [outer W1 [e0], loopE l_ (recd rc .busy none), box B5 [.slice aol ol.length col] 30, ownE tInt Sol aol col (ol.length)] rfl rfl ?_
      refine h_take (i := 0) (ls := #[true, false, false, false, false, false, false, false, false]) rfl (by kernel_rfl) (by kernel_rfl) (by kernel_rfl) (fun _ _ _ h => h) (p_load (i := 2) (v := .slice aol ol.length col) rfl rfl sh30 rfl) rfl rfl rfl (fun _ hw => HeapIs.drop (HeapIs.toE (i := 4) (m := ol.length) (T := tInt) rfl (by simp only [List.length_set]) hw) (List.Sublist.cons_cons _ (List.Sublist.cons_cons _ (List.Sublist.cons _ (List.Sublist.cons_cons _ (List.Sublist.cons_cons _ (List.Sublist.slnil))))))) rfl ?_
      refine h_take (i := 1) (ls := #[true, true, false, false, false, false, false, false, false]) rfl (by kernel_rfl) (by kernel_rfl) (by kernel_rfl) (fun _ _ _ h => h) (p_move (v := .int .i64 ((l.length : Int) - 1 - (k : Int))) rfl) rfl rfl rfl (fun _ hw => HeapIs.drop (HeapIs.toE (i := 4) (m := ol.length) (T := tInt) rfl (by simp only [List.length_set]) hw) (List.Sublist.cons_cons _ (List.Sublist.cons_cons _ (List.Sublist.cons _ (List.Sublist.cons_cons _ (List.Sublist.cons_cons _ (List.Sublist.slnil))))))) rfl ?_
      refine h_take (i := 2) (ls := #[true, true, true, false, false, false, false, false, false]) rfl (by kernel_rfl) (by kernel_rfl) (by kernel_rfl) (fun _ _ _ h => h) (p_loadR (v := .map (some B6)) rfl (rbox_outer (i := 0) rfl hobr0_B7) sh116 rfl) rfl rfl rfl (fun _ hw => HeapIs.drop (HeapIs.toE (i := 4) (m := ol.length) (T := tInt) rfl (by simp only [List.length_set]) hw) (List.Sublist.cons_cons _ (List.Sublist.cons_cons _ (List.Sublist.cons _ (List.Sublist.cons_cons _ (List.Sublist.cons_cons _ (List.Sublist.slnil))))))) rfl ?_
      refine h_take (i := 3) (ls := #[true, true, true, true, false, false, false, false, false]) rfl (by kernel_rfl) (by kernel_rfl) (by kernel_rfl) (fun _ _ _ h => h) (p_move (v := .int .i64 (l.getD (l.length - 1 - k) 0)) rfl) rfl rfl rfl (fun _ hw => HeapIs.drop (HeapIs.toE (i := 4) (m := ol.length) (T := tInt) rfl (by simp only [List.length_set]) hw) (List.Sublist.cons_cons _ (List.Sublist.cons_cons _ (List.Sublist.cons _ (List.Sublist.cons_cons _ (List.Sublist.cons_cons _ (List.Sublist.slnil))))))) rfl ?_
      refine h_take (i := 4) (ls := #[true, true, true, true, true, false, false, false, false]) rfl (by kernel_rfl) (by kernel_rfl) (by kernel_rfl) (fun _ _ _ h => h) (p_move (v := .int .i64 ((AL.get m (l.getD (l.length - 1 - k) 0)).getD 0)) rfl) rfl rfl rfl (fun _ hw => HeapIs.drop (HeapIs.toE (i := 4) (m := ol.length) (T := tInt) rfl (by simp only [List.length_set]) hw) (List.Sublist.cons_cons _ (List.Sublist.cons_cons _ (List.Sublist.cons _ (List.Sublist.cons_cons _ (List.Sublist.cons_cons _ (List.Sublist.slnil))))))) rfl ?_
      refine h_take (i := 5) (ls := #[true, true, true, true, true, true, false, false, false]) rfl (by kernel_rfl) (by kernel_rfl) (by kernel_rfl) (fun _ _ _ h => h) (p_move (v := .int .i64 ((l.length : Int) - 1 - (k : Int))) rfl) rfl rfl rfl (fun _ hw => HeapIs.drop (HeapIs.toE (i := 4) (m := ol.length) (T := tInt) rfl (by simp only [List.length_set]) hw) (List.Sublist.cons_cons _ (List.Sublist.cons_cons _ (List.Sublist.cons _ (List.Sublist.cons_cons _ (List.Sublist.cons_cons _ (List.Sublist.slnil))))))) rfl ?_
      refine h_take (i := 6) (ls := #[true, true, true, true, true, true, true, false, false]) rfl (by kernel_rfl) (by kernel_rfl) (by kernel_rfl) (fun _ _ _ h => h) (p_indexAddrE (T := tInt) (i := ((l.length : Int) - 1 - (k : Int))) (j := 3) rfl rfl rfl Try.underlying30 sz3 (by omega) (by omega)) rfl rfl rfl (fun _ hw => HeapIs.drop (HeapIs.toE (i := 4) (m := ol.length) (T := tInt) rfl (by simp only [List.length_set]) hw) (List.Sublist.cons_cons _ (List.Sublist.cons_cons _ (List.Sublist.cons _ (List.Sublist.cons_cons _ (List.Sublist.cons_cons _ (List.Sublist.slnil))))))) rfl ?_
      refine h_one (i := 7) (ls := #[true, true, true, true, true, true, true, true, false]) (by kernel_rfl) rfl rfl ?_
      refine o_storeW (i := 4) (T := tInt) (idx := ((l.length : Int) - 1 - (k : Int)).toNat) (v := .int .i64 ((AL.get m (l.getD (l.length - 1 - k) 0)).getD 0)) (vs := [.int .i64 ((AL.get m (l.getD (l.length - 1 - k) 0)).getD 0)]) (z := ((AL.get m (l.getD (l.length - 1 - k) 0)).getD 0)) rfl rfl rfl rfl (by first | assumption | omega | (simp only [List.length_set]; omega)) sz3 rfl rfl rfl rfl (Sub.refl _) ?_
      refine o_nil ?_
      refine h_next (fun _ hw => HeapIs.drop (HeapIs.toE (i := 4) (m := ol.length) (T := tInt) rfl (by simp only [List.length_set]) hw) (List.Sublist.cons_cons _ (List.Sublist.cons_cons _ (List.Sublist.cons _ (List.Sublist.cons_cons _ (List.Sublist.cons_cons _ (List.Sublist.slnil))))))) ?_
      refine h_one (i := 8) (ls := #[true, true, true, true, true, true, true, true, true]) (by kernel_rfl) rfl rfl ?_
      refine o_mapUpdate (i := 2) (K := kInt) (ve := (fun z : Int => .int .i64 z)) (m := m) (k := (l.getD (l.length - 1 - k) 0)) (v := ((l.length : Int) - 1 - (k : Int))) rfl rfl rfl rfl Try.underlying116 Try.underlying3 ?_
      refine o_nil ?_
      refine h_next (fun _ hw => HeapIs.drop (HeapIs.toE (i := 4) (m := ol.length) (T := tInt) rfl (by simp only [List.length_set]) hw) (List.Sublist.cons_cons _ (List.Sublist.cons_cons _ (List.Sublist.cons _ (List.Sublist.cons_cons _ (List.Sublist.cons_cons _ (List.Sublist.slnil))))))) ?_
      refine h_done (by kernel_rfl) ?_
      refine q_cast (F' := []) (H := [outer W1 [e0], loopE l_ (recd rc .busy none), mapE kInt (fun z : Int => .int .i64 z) B6 (AL.set m (l.getD (l.length - 1 - k) 0) ((l.length : Int) - 1 - (k : Int))), box B5 [.slice aol ol.length col] 30, own tInt Sol aol col (ol.set (((l.length : Int) - 1 - (k : Int)).toNat) ((AL.get m (l.getD (l.length - 1 - k) 0)).getD 0))]) (H' := [outer W1 [e0], loopE l_ (recd rc .busy none), mapE kInt (fun z : Int => .int .i64 z) B6 (AL.set m (l.getD (l.length - 1 - k) 0) ((l.length : Int) - 1 - (k : Int))), box B5 [.slice aol (ol.set (((l.length : Int) - 1 - (k : Int)).toNat) ((AL.get m (l.getD (l.length - 1 - k) 0)).getD 0)).length col] 30, own tInt Sol aol col (ol.set (((l.length : Int) - 1 - (k : Int)).toNat) ((AL.get m (l.getD (l.length - 1 - k) 0)).getD 0))]) (Sub.nil _) (by simp only [List.length_set, List.length_reverse]) ?_
      refine q_block_normal ?_
      refine q_next ((ol.set (((l.length : Int) - 1 - (k : Int)).toNat) ((AL.get m (l.getD (l.length - 1 - k) 0)).getD 0)), aol, col, Sol, (AL.set m (l.getD (l.length - 1 - k) 0) ((l.length : Int) - 1 - (k : Int)))) ?_ (fun w hw => hw.pick (H' := [outer W1 [e0], loopE l_ (recd rc .busy none), mapE kInt (fun z : Int => .int .i64 z) B6 (AL.set m (l.getD (l.length - 1 - k) 0) ((l.length : Int) - 1 - (k : Int))), box B5 [.slice aol (ol.set (((l.length : Int) - 1 - (k : Int)).toNat) ((AL.get m (l.getD (l.length - 1 - k) 0)).getD 0)).length col] 30, own tInt Sol aol col (ol.set (((l.length : Int) - 1 - (k : Int)).toNat) ((AL.get m (l.getD (l.length - 1 - k) 0)).getD 0))]) [0, 1, 2, 3, 4] (by decide) rfl)
      first | exact hI.next hk rfl rfl (hI.some (by assumption)) | exact hI.next hk rfl rfl (hI.none (by assumption))
  · rintro D ⟨ol, aol, col, Sol, m⟩ hI
    show SQ _ 35 w0 _ _ _ [defE D, mapE kInt (fun z : Int => .int .i64 z) B6 m, box B5 [.slice aol ol.length col] 30, own tInt Sol aol col ol, box B8 [.slice al l.length cl] 30, box B7 [.map (some B6)] 116, box B1 [.slice al l.length cl] 30, base w0]
    refine q_block_normal (q_then ?_)
    refine c_seq ?_
    refine c_region ?_
    refine o_pure (p_load (i := 2) (v := .slice aol ol.length col) rfl rfl sh30 rfl) rfl rfl rfl ?_
    refine o_pure (p_assign (v := .slice aol ol.length col) rfl) rfl rfl rfl ?_
    refine o_nil ?_
    refine q_then ?_
    refine c_ret ?_
    refine q_marks (i := 0) rfl ?_
    show SQ _ 35 w0 _ _ _ [mapE kInt (fun z : Int => .int .i64 z) B6 m, box B5 [.slice aol ol.length col] 30, own tInt Sol aol col ol, box B8 [.slice al l.length cl] 30, box B7 [.map (some B6)] 116, box B1 [.slice al l.length cl] 30, base w0]
    refine q_marks0 ?_
    have hr0 : (ol : List Int) = (Opt.nexts l) := by
      exact hI.done
    refine q_endM (p := (aol, col)) Sol (rt1 rfl (r_tmp rfl)) (i := 6) rfl ?_ ?_ ?_
    · exact (by have hcc := congrArg (fun (y0 : List Int) => (.slice aol y0.length col : Value)) hr0; exact hcc)
    · exact fun w hw => hw.above (i := 6) (j := 2) (by decide) rfl rfl
    · intro w hw; exact Eq.mp (congrArg (fun y => SlO tInt _ w aol col y) hr0) ((hw.at (i := 2) rfl).here)
  · intro D c s h; exact h.elim
end Go.Proofs.Ytkndekkacimekaa
