/- The walks, printed by a program from the translation and a specification. -/
import Derived.Test.YthecfjipaepcgaaTaF
import Derived.Test.YthecfjipaepcgaaTaLaw
import Derived.Test.YthecfjipaepcgaaTaW2
namespace Go.Proofs.Ythecfjipaepcgaa
open Go.Sx Go.RowKit
set_option maxHeartbeats 8000000 in
set_option maxRecDepth 100000 in
theorem tput_ok (tt : List DSlot) (att : Option Addr) (ctt : Nat) (Stt : Nat → Prop) (key : ByteArray) (value : Int) (hy1 : 1 ≤ tt.length ∧ tt.length ≤ 64 ∧ key.size ≤ 40) : FnX Try.prog 58 [.slice att tt.length ctt, .string key, Vi value] [own tSlot Stt att ctt tt] (fun _ => True) (Unit) (fun p => .bool (!decide (Tab.putAt tt key < 0))) (fun p => [own tSlot Stt att ctt (Tab.put tt key value)]) := by
 refine fnXR (nt := 37) (F0 := [(0, .slice att tt.length ctt), (1, .string key), (2, Vi value)]) Try.func58 rfl Try.ntmps58 rfl rfl (fun w0 hpre => ?_)
 refine c_know (fun w hw => own_len (i := 1) (T := tSlot) hw rfl) (fun hlown_tt => ?_)
 obtain ⟨hcown_tt, hlown_tt⟩ := hlown_tt
 have hhb := Tab.home_bd key (n := (tt.length : Int)) (by omega)
 refine c_seq (c_region ?_)
 refine o_box (v := .slice att tt.length ctt) rfl rfl (fun B1 => ?_)
 refine o_box (v := .string key) rfl rfl (fun B2 => ?_)
 refine o_box (v := Vi value) rfl rfl (fun B3 => ?_)
 refine o_alloc ze4 rfl (fun B4 => ?_)
 refine o_nil (q_then (c_seq (c_seq ?_)))
 refine c_cutN (G := Nat × Nat) (fun ⟨B5_6, B5_6_1⟩ => [(3, .pointer (some ⟨B1, 0, none⟩)), (4, .pointer (some ⟨B2, 0, none⟩)), (5, .pointer (some ⟨B3, 0, none⟩)), (6, .pointer (some ⟨B4, 0, none⟩)), (14, .func (.func 90) #[] #[.pointer (some ⟨B5_6, 0, none⟩), .pointer (some ⟨B5_6_1, 0, none⟩)])]) (fun ⟨B5_6, B5_6_1⟩ => [box B5_6 [Vi (tt.length : Int)] 3, box B5_6_1 [Vi (Tab.home key (tt.length : Int))] 3, box B4 [.bool false] 4, box B3 [Vi value] 3, box B2 [.string key] 9, box B1 [.slice att tt.length ctt] 22, outer w0 [own tSlot Stt att ctt tt], own tSlot Stt att ctt tt]) (fun K hK6 => ?_) ?_
 ·refine c_held hmix [box B4 [.bool false] 4, box B3 [Vi value] 3, box B2 [.string key] 9, box B1 [.slice att tt.length ctt] 22, outer w0 [own tSlot Stt att ctt tt], own tSlot Stt att ctt tt] rfl rfl ?_
  refine h_t0 (i := 0) (ls := #[T1,F0,F0,F0,F0,F0,F0]) rfl (p_load (i := 3) (v := .slice att tt.length ctt) rfl rfl sh22 rfl) ?_
  refine h_t0 (i := 1) (ls := #[T1,T1,F0,F0,F0,F0,F0]) rfl (p_len_slice rfl rfl Try.underlying22) ?_
  refine h_t0 (i := 2) (ls := #[T1,T1,T1,F0,F0,F0,F0]) rfl (p_load (i := 2) (v := .string key) rfl rfl sh9 rfl) ?_
  refine h_t0 (i := 3) (ls := #[T1,T1,T1,T1,F0,F0,F0]) rfl (p_load (i := 3) (v := .slice att tt.length ctt) rfl rfl sh22 rfl) ?_
  refine h_t0 (i := 4) (ls := #[T1,T1,T1,T1,T1,F0,F0]) rfl (p_len_slice rfl rfl Try.underlying22) ?_
  refine h_one (i := 5) (ls := #[T1,T1,T1,T1,T1,T1,F0]) (by kernel_rfl) rfl rfl ?_
  refine o_call0 (v := Vi (Tab.home key (tt.length : Int))) rfl (thome_ok key (tt.length : Int) (by first | assumption | omega | exact hy1.2.2.2 | exact hy1.2.2)) hf60 (fun _ _ => trivial) rfl ?_
  refine o_nil ?_
  refine h_next (dp (lr)) ?_
  refine h_one (i := 6) (ls := #[T1,T1,T1,T1,T1,T1,T1]) (by kernel_rfl) rfl rfl ?_
  refine o_callX (pre := []) (R := [box B4 [.bool false] 4, box B3 [Vi value] 3, box B2 [.string key] 9, box B1 [.slice att tt.length ctt] 22, outer w0 [own tSlot Stt att ctt tt], own tSlot Stt att ctt tt]) rfl (tround_ok (tt.length : Int) (Tab.home key (tt.length : Int))) hf59 rfl (fun _ _ => trivial) rfl ?_
  rintro ⟨B5_6, B5_6_1⟩
  refine o_asH (H' := [box B5_6 [Vi (tt.length : Int)] 3, box B5_6_1 [Vi (Tab.home key (tt.length : Int))] 3, box B4 [.bool false] 4, box B3 [Vi value] 3, box B2 [.string key] 9, box B1 [.slice att tt.length ctt] 22, outer w0 [own tSlot Stt att ctt tt], own tSlot Stt att ctt tt]) rfl ?_
  refine o_nil ?_
  refine h_next (dp (lz (lz (lj (lj (lj (lj (lj (lj (ln)))))))))) ?_
  refine h_done (by kernel_rfl) ?_
  refine q_kontN hK6 (B5_6, B5_6_1) (sr (sr (sr (sr (sr (Sub.nil _)))))) (pk [0, 1, 2, 3, 4, 5, 6, 7])
 rintro ⟨B5_6, B5_6_1⟩
 show SQ _ 37 w0 _ _ [(3, .pointer (some ⟨B1, 0, none⟩)), (4, .pointer (some ⟨B2, 0, none⟩)), (5, .pointer (some ⟨B3, 0, none⟩)), (6, .pointer (some ⟨B4, 0, none⟩)), (14, .func (.func 90) #[] #[.pointer (some ⟨B5_6, 0, none⟩), .pointer (some ⟨B5_6_1, 0, none⟩)])] [box B5_6 [Vi (tt.length : Int)] 3, box B5_6_1 [Vi (Tab.home key (tt.length : Int))] 3, box B4 [.bool false] 4, box B3 [Vi value] 3, box B2 [.string key] 9, box B1 [.slice att tt.length ctt] 22, outer w0 [own tSlot Stt att ctt tt], own tSlot Stt att ctt tt]
 refine q_then (c_block ?_)
 refine c_rangeFunc (f := 90) (caps := [.pointer (some ⟨B5_6, 0, none⟩), .pointer (some ⟨B5_6_1, 0, none⟩)]) (Pr := (fun e w => ((box B5_6 [Vi (tt.length : Int)] 3).A w ∧ (outer w [e]).S B5_6) ∧ ((box B5_6_1 [Vi (Tab.home key (tt.length : Int))] 3).A w ∧ (outer w [e]).S B5_6_1))) (X := Unit) (encs := (fun x k => [Vi (Tab.place (Tab.home key (tt.length : Int)) (tt.length : Int) k)])) (E := (fun x k => [])) (N := (tt.length : Int).toNat) rfl hf90 (round1_ok (tt.length : Int) B5_6 (Tab.home key (tt.length : Int)) B5_6_1 (by omega)) (fun _ _ => rfl) (by decide) (St := List DSlot × Bool)
  (fun ⟨ls, rb⟩ => [box B4 [.bool rb] 4, box B1 [.slice att ls.length ctt] 22, own tSlot Stt att ctt ls])
  (fun k ⟨ls, rb⟩ => Tab.PI tt key k ∧ ls = tt)
  (fun c ⟨ls, rb⟩ => (c = .ret ∧ (ls = Tab.put tt key value ∧ rb = !decide (Tab.putAt tt key < 0))))
  [box B5_6 [Vi (tt.length : Int)] 3, box B5_6_1 [Vi (Tab.home key (tt.length : Int))] 3, box B3 [Vi value] 3, box B2 [.string key] 9, outer w0 [own tSlot Stt att ctt tt]]
  (tt, false) ?_ ?_ ?_ ?_ ?_ ?_
 ·exact ⟨Tab.PI.start tt key, rfl⟩
 ·exact fun w hw => hw.pick (H' := [box B4 [.bool false] 4, box B1 [.slice att tt.length ctt] 22, own tSlot Stt att ctt tt, box B5_6 [Vi (tt.length : Int)] 3, box B5_6_1 [Vi (Tab.home key (tt.length : Int))] 3, box B3 [Vi value] 3, box B2 [.string key] 9, outer w0 [own tSlot Stt att ctt tt]]) [2, 5, 7, 0, 1, 3, 4, 6] (by decide) rfl
 ·intro D e0 W1 hW1
  exact ⟨boxX (i := 2) (js := [0]) rfl (by decide) rfl W1 hW1, boxX (i := 3) (js := [0]) rfl (by decide) rfl W1 hW1⟩
 ·rintro l_ rc D e0 W1 hW1 x_ k ⟨ls, rb⟩ hk hI
  have hpb := Tab.place_bd (h := Tab.home key (tt.length : Int)) (n := (tt.length : Int)) (by omega) (by omega) k
  obtain ⟨hI1, hls⟩ := id hI
  have hll : ls.length = tt.length := by rw [hls]
  have hobr0_B2 := boxX (i := 5) (B := B2) (cs := [.string key]) (U := 9) (js := [0]) (pre := [e0]) rfl (by decide) rfl W1 hW1
  have hobr0_B3 := boxX (i := 4) (B := B3) (cs := [Vi value]) (U := 3) (js := [0]) (pre := [e0]) rfl (by decide) rfl W1 hW1
  refine c_region ?_
  refine o_as rfl rfl ?_
  refine o_nil ?_
  refine q_begin (i := 1) rfl ?_
  refine c_block (c_seq ?_)
  refine c_drawR hmix (by decide) (fun _ _ h => h) (by kernel_rfl) ?_
  refine w_p (p_load (i := 3) (v := .slice att ls.length ctt) rfl rfl sh22 rfl) ?_
  refine w_mv rfl rfl ?_
  refine w_p (p_indexAddr (L := ls) (T := tSlot) (i := (Tab.place (Tab.home key (tt.length : Int)) (tt.length : Int) k)) rfl rfl (rd_own (i := 4) rfl) Try.underlying22 sz33 (by omega) (by omega)) ?_
  refine w_p (p_fieldAddrE rfl fo33_0) ?_
  refine w_p (p_loadF (i := (Tab.place (Tab.home key (tt.length : Int)) (tt.length : Int) k).toNat) (j := 0) (T := tSlot) (L := ls) (v := .bool ((ls.getD ((Tab.place (Tab.home key (tt.length : Int)) (tt.length : Int) k).toNat) default).used)) rfl (rd_own (i := 4) rfl) (by first | assumption | omega) sh4 (congrArg (fun z => (tSlot.enc z)[0]?) (getd_at (by first | assumption | omega) default))) ?_
  refine w_p (p_not (b := (ls.getD ((Tab.place (Tab.home key (tt.length : Int)) (tt.length : Int) k).toNat) default).used) rfl) ?_
  refine w_mv rfl rfl ?_
  refine w_or (p := 30) 8 (decide ((ls.getD ((Tab.place (Tab.home key (tt.length : Int)) (tt.length : Int) k).toNat) default).key = key)) ?_ ?_ ?_
  ·intro hb7 hk
   simp only [Bool.not_eq_false'] at hb7
   refine w_unguard 22 rfl rfl ?_
   refine w_p (p_load (i := 3) (v := .slice att ls.length ctt) rfl rfl sh22 rfl) ?_
   refine w_unguard 22 rfl rfl ?_
   refine w_mv rfl rfl ?_
   refine w_unguard 22 rfl rfl ?_
   refine w_p (p_indexAddr (L := ls) (T := tSlot) (i := (Tab.place (Tab.home key (tt.length : Int)) (tt.length : Int) k)) rfl rfl (rd_own (i := 4) rfl) Try.underlying22 sz33 (by omega) (by omega)) ?_
   refine w_unguard 22 rfl rfl ?_
   refine w_p (p_fieldAddrE rfl fo33_1) ?_
   refine w_unguard 22 rfl rfl ?_
   refine w_p (p_loadF (i := (Tab.place (Tab.home key (tt.length : Int)) (tt.length : Int) k).toNat) (j := 1) (T := tSlot) (L := ls) (v := .string ((ls.getD ((Tab.place (Tab.home key (tt.length : Int)) (tt.length : Int) k).toNat) default).key)) rfl (rd_own (i := 4) rfl) (by first | assumption | omega) sh9 (congrArg (fun z => (tSlot.enc z)[1]?) (getd_at (by first | assumption | omega) default))) ?_
   refine w_unguard 22 rfl rfl ?_
   refine w_p (p_loadR (v := .string key) rfl (rbox_outer (i := 0) rfl hobr0_B2) sh9 rfl) ?_
   refine w_unguard 22 rfl rfl ?_
   refine w_p (p_eqStr (s := (ls.getD ((Tab.place (Tab.home key (tt.length : Int)) (tt.length : Int) k).toNat) default).key) (t := key) rfl rfl) ?_
   refine w_pf rfl rfl rfl ?_
   exact w_sub (sr (Sub.skip rfl (Sub.skip rfl (Sub.skip rfl (Sub.skip rfl (Sub.skip rfl (Sub.skip rfl (Sub.skip rfl (Sub.skip rfl (Sub.skip rfl (Sub.refl _))))))))))) hk
  ·intro hb7 hk
   refine w_guard_no rfl 22 rfl rfl rfl rfl rfl ?_
   refine w_guard_no rfl 22 rfl rfl rfl rfl rfl ?_
   refine w_guard_no rfl 22 rfl rfl rfl rfl rfl ?_
   refine w_guard_no rfl 22 rfl rfl rfl rfl rfl ?_
   refine w_guard_no rfl 22 rfl rfl rfl rfl rfl ?_
   refine w_guard_no rfl 22 rfl rfl rfl rfl rfl ?_
   refine w_guard_no rfl 22 rfl rfl rfl rfl rfl ?_
   refine w_pt rfl rfl rfl ?_
   exact w_sub (sr (Sub.skip rfl (Sub.skip rfl (Sub.skip rfl (Sub.skip rfl (Sub.skip rfl (Sub.skip rfl (Sub.skip rfl (Sub.skip rfl (Sub.skip rfl (Sub.refl _))))))))))) hk
  refine w_nil (q_then ?_)
  refine c_cond rfl (fun hc8 => ?_) (fun hc8 => ?_)
  ·simp only [Bool.or_eq_true, Bool.not_eq_true', decide_eq_true_eq] at hc8
   have hu := hc8
   refine c_seq (c_region ?_)
   refine o_p (p_load (i := 3) (v := .slice att ls.length ctt) rfl rfl sh22 rfl) ?_
   refine o_mv rfl rfl ?_
   refine o_p (p_loadR (v := .string key) rfl (rbox_outer (i := 0) rfl hobr0_B2) sh9 rfl) ?_
   refine o_p (p_loadR (v := Vi value) rfl (rbox_outer (i := 0) rfl hobr0_B3) sh3 rfl) ?_
   refine o_p (p_build (cells := [.bool true, .string key, Vi value]) fp33 ze33 rfl rfl) ?_
   refine o_p (p_indexAddr (L := ls) (T := tSlot) (i := (Tab.place (Tab.home key (tt.length : Int)) (tt.length : Int) k)) rfl rfl (rd_own (i := 4) rfl) Try.underlying22 sz33 (by omega) (by omega)) ?_
   refine o_storeW (i := 4) (T := tSlot) (idx := (Tab.place (Tab.home key (tt.length : Int)) (tt.length : Int) k).toNat) (v := .agg #[.bool true, .string key, Vi value]) (vs := [.bool true, .string key, Vi value]) (z := (⟨true, key, value⟩ : DSlot)) (F' := [(6, .pointer (some ⟨B4, 0, none⟩))]) rfl rfl rfl rfl (by first | assumption | omega | (simp only [List.length_set]; omega)) sz33 rfl rfl rfl rfl (sr (Sub.nil _)) ?_
   refine o_asH (H := [outer W1 [e0], loopE l_ (recd rc .busy none), box B4 [.bool rb] 4, box B1 [.slice att ls.length ctt] 22, own tSlot Stt att ctt (ls.set ((Tab.place (Tab.home key (tt.length : Int)) (tt.length : Int) k).toNat) (⟨true, key, value⟩ : DSlot))]) (H' := [outer W1 [e0], loopE l_ (recd rc .busy none), box B4 [.bool rb] 4, box B1 [.slice att (ls.set ((Tab.place (Tab.home key (tt.length : Int)) (tt.length : Int) k).toNat) (⟨true, key, value⟩ : DSlot)).length ctt] 22, own tSlot Stt att ctt (ls.set ((Tab.place (Tab.home key (tt.length : Int)) (tt.length : Int) k).toNat) (⟨true, key, value⟩ : DSlot))]) (by simp only [List.length_set]) ?_
   refine o_nil (q_then (c_seq (c_region ?_)))
   refine o_store (i := 2) (v := .bool true) (cs' := [.bool true]) rfl rfl rfl sz4 rfl rfl rfl ?_
   refine o_nil (q_then (c_ret ?_))
   refine q_block_ret ?_
   refine q_leave ((ls.set ((Tab.place (Tab.home key (tt.length : Int)) (tt.length : Int) k).toNat) (⟨true, key, value⟩ : DSlot)), true) ?_ (fun w hw => hw.pick (H' := [outer W1 [e0], loopE l_ (recd rc .busy none), box B4 [.bool true] 4, box B1 [.slice att (ls.set ((Tab.place (Tab.home key (tt.length : Int)) (tt.length : Int) k).toNat) (⟨true, key, value⟩ : DSlot)).length ctt] 22, own tSlot Stt att ctt (ls.set ((Tab.place (Tab.home key (tt.length : Int)) (tt.length : Int) k).toNat) (⟨true, key, value⟩ : DSlot))]) [0, 1, 2, 3, 4] (by decide) rfl)
   refine ⟨rfl, ?_⟩
   subst hls
   exact Tab.put_yes hpb (hI1.here (by omega) hu)
  ·simp only [Bool.or_eq_false_iff, Bool.not_eq_false', decide_eq_false_iff_not] at hc8
   have hu := hc8
   refine c_skip ?_
   refine q_block_normal ?_
   refine q_next (ls, rb) ?_ (fun w hw => hw.pick (H' := [outer W1 [e0], loopE l_ (recd rc .busy none), box B4 [.bool rb] 4, box B1 [.slice att ls.length ctt] 22, own tSlot Stt att ctt ls]) [0, 1, 2, 3, 4] (by decide) rfl)
   subst hls
   exact ⟨hI1.next (by omega) (Tab.not_or2 hu), rfl⟩
 ·rintro D ⟨ls, rb⟩ hI
  show SQ _ 37 w0 _ _ _ [defE D, box B4 [.bool rb] 4, box B1 [.slice att ls.length ctt] 22, own tSlot Stt att ctt ls, box B5_6 [Vi (tt.length : Int)] 3, box B5_6_1 [Vi (Tab.home key (tt.length : Int))] 3, box B3 [Vi value] 3, box B2 [.string key] 9, outer w0 [own tSlot Stt att ctt tt]]
  refine q_block_normal (q_then ?_)
  refine c_seq (c_region ?_)
  refine o_store (i := 1) (v := .bool false) (cs' := [.bool false]) rfl rfl rfl sz4 rfl rfl rfl ?_
  refine o_nil (q_then (c_ret ?_))
  refine q_marks (i := 0) rfl ?_
  show SQ _ 37 w0 _ _ _ [box B4 [.bool false] 4, box B1 [.slice att ls.length ctt] 22, own tSlot Stt att ctt ls, box B5_6 [Vi (tt.length : Int)] 3, box B5_6_1 [Vi (Tab.home key (tt.length : Int))] 3, box B3 [Vi value] 3, box B2 [.string key] 9, outer w0 [own tSlot Stt att ctt tt]]
  refine q_marks0 ?_
  have hr0 : (ls : List DSlot) = (Tab.put tt key value) := by
   first | exact hI.2 | exact hI.1 | exact (Tab.put_no (v := value) (hI.1.done (by omega))).2 | exact hI.2.trans (Tab.put_no (v := value) (hI.1.done (by omega))).1
  have hr1 : (false : Bool) = (!decide (Tab.putAt tt key < 0)) := by
   first | exact hI.2 | exact hI.1 | exact (Tab.put_no (v := value) (hI.1.done (by omega))).2 | exact hI.2.trans (Tab.put_no (v := value) (hI.1.done (by omega))).1
  refine q_endX (p := ()) (rt1 rfl (r_cell1 (i := 0) rfl rfl sh4)) ?_ (fun w hw => ?_)
  ·exact (by have hcc := congr (congrArg (fun (y0 : List DSlot) (y1 : Bool) => (.bool y1 : Value)) hr0) hr1; exact hcc)
  ·have h2 := hw.pick (H' := [outer w0 [own tSlot Stt att ctt tt], own tSlot Stt att ctt ls]) [7, 2] (by decide) rfl
   exact Eq.mp (congrArg (fun z => HeapIs w0 ((outer w0 [own tSlot Stt att ctt tt]) :: z) w) ((by have hcc := congr (congrArg (fun (y0 : List DSlot) (y1 : Bool) => ([own tSlot Stt att ctt y0] : List Ent)) hr0) hr1; exact hcc))) h2
 ·rintro D c ⟨ls, rb⟩ hx
  rcases hx with ⟨rfl, hI⟩
  ·show SC _ _ Try.prog 37 w0 _ _ _ [defE D, box B4 [.bool rb] 4, box B1 [.slice att ls.length ctt] 22, own tSlot Stt att ctt ls, box B5_6 [Vi (tt.length : Int)] 3, box B5_6_1 [Vi (Tab.home key (tt.length : Int))] 3, box B3 [Vi value] 3, box B2 [.string key] 9, outer w0 [own tSlot Stt att ctt tt]]
   refine c_ret ?_
   refine q_block_ret (q_then_ret ?_)
   refine q_marks (i := 0) rfl ?_
   show SQ _ 37 w0 _ _ _ [box B4 [.bool rb] 4, box B1 [.slice att ls.length ctt] 22, own tSlot Stt att ctt ls, box B5_6 [Vi (tt.length : Int)] 3, box B5_6_1 [Vi (Tab.home key (tt.length : Int))] 3, box B3 [Vi value] 3, box B2 [.string key] 9, outer w0 [own tSlot Stt att ctt tt]]
   refine q_marks0 ?_
   have hr0 : (ls : List DSlot) = (Tab.put tt key value) := by
    first | exact hI.2 | exact hI.1 | exact (Tab.put_no (v := value) (hI.1.done (by omega))).2 | exact hI.2.trans (Tab.put_no (v := value) (hI.1.done (by omega))).1
   have hr1 : (rb : Bool) = (!decide (Tab.putAt tt key < 0)) := by
    first | exact hI.2 | exact hI.1 | exact (Tab.put_no (v := value) (hI.1.done (by omega))).2 | exact hI.2.trans (Tab.put_no (v := value) (hI.1.done (by omega))).1
   refine q_endX (p := ()) (rt1 rfl (r_cell1 (i := 0) rfl rfl sh4)) ?_ (fun w hw => ?_)
   ·exact (by have hcc := congr (congrArg (fun (y0 : List DSlot) (y1 : Bool) => (.bool y1 : Value)) hr0) hr1; exact hcc)
   ·have h2 := hw.pick (H' := [outer w0 [own tSlot Stt att ctt tt], own tSlot Stt att ctt ls]) [7, 2] (by decide) rfl
    exact Eq.mp (congrArg (fun z => HeapIs w0 ((outer w0 [own tSlot Stt att ctt tt]) :: z) w) ((by have hcc := congr (congrArg (fun (y0 : List DSlot) (y1 : Bool) => ([own tSlot Stt att ctt y0] : List Ent)) hr0) hr1; exact hcc))) h2

set_option maxHeartbeats 8000000 in
set_option maxRecDepth 100000 in
theorem clone_Slot_ok (l : List DSlot) (al : Option Addr) (cl : Nat) (hy1 : l.length ≤ 1000000) : FnM Try.prog 57 [.slice al l.length cl] (fun w => Rd tSlot w al cl l) (Option Addr × Nat) (fun p => .slice p.1 l.length p.2) (fun p S w => SlO tSlot S w p.1 p.2 l) := by
 refine fnM (nt := 8) (F0 := [(0, .slice al l.length cl)]) Try.func57 rfl Try.ntmps57 rfl rfl (fun w0 hpre => ?_)
 have hl := hpre
 have hlhl := hl.2.1
 refine c_seq (c_region ?_)
 refine o_as rfl rfl ?_
 refine o_nil (q_then (c_seq (c_seq (c_region ?_))))
 refine o_mv rfl rfl ?_
 refine o_p (p_eqNil rfl rfl Try.underlying22) ?_
 refine o_nil (q_then ?_)
 refine c_cond rfl (fun hc1 => ?_) (fun hc1 => ?_)
 ·skip
  refine c_seq (c_region ?_)
  refine o_as rfl rfl ?_
  refine o_nil (q_then (c_ret ?_))
  refine q_then_ret ?_
  have hr0 : ([] : List DSlot) = l := by
   first | exact (rd_isNone hl (by assumption)).symm | simp
  refine q_endM (p := (none, 0)) (fun _ => False) (rt1 rfl (r_tmp rfl)) (i := 0) rfl ?_ ?_ ?_
  ·exact (by have hcc := congrArg (fun (y0 : List DSlot) => (.slice none y0.length 0 : Value)) hr0; exact hcc)
  ·intro w hw b hb; exact hb.elim
  ·intro w hw; exact Eq.mp (congrArg (fun y => SlO tSlot _ w none 0 y) hr0) (SlO.nil tSlot w)
 ·skip
  refine c_skip (q_then (c_seq (c_region ?_)))
  refine o_buildSlice (m := 0) (T := tSlot) (L := []) (vs := []) rfl rfl rfl rfl Try.underlying22 sz33 (by decide) ze33 rfl (by decide) rfl (fun S2 a3 => ?_)
  refine o_mv rfl rfl ?_
  refine o_append (i := 0) (L := []) (M := l) (T := tSlot) rfl rfl rfl (rd_base (i := 1) rfl hl) Try.underlying22 Try.underlying22 (by intro k h; cases h) el33 (by intro z; simp [tSlot, one1]) (by decide) (by simp only [List.length_nil]; omega) rfl (fun a5 c6 S7 => ?_)
  refine o_as rfl rfl ?_
  refine o_nil (q_then (c_ret ?_))
  have hr0 : (([] ++ l) : List DSlot) = l := by
   first | exact (rd_isNone hl (by assumption)).symm | simp
  refine q_endM (p := (a5, c6)) S7 (rt1 rfl (r_tmp rfl)) (i := 1) rfl ?_ ?_ ?_
  ·exact (by have hcc := congrArg (fun (y0 : List DSlot) => (.slice a5 y0.length c6 : Value)) hr0; exact hcc)
  ·exact fun w hw => hw.above (i := 1) (j := 0) (by decide) rfl rfl
  ·intro w hw; exact Eq.mp (congrArg (fun y => SlO tSlot _ w a5 c6 y) hr0) ((hw.at (i := 0) rfl).here)

set_option maxHeartbeats 8000000 in
set_option maxRecDepth 100000 in
theorem tPut_ok (tt : List DSlot) (att : Option Addr) (ctt : Nat) (key : ByteArray) (value : Int) : FnM Try.prog 16 [.slice att tt.length ctt, .string key, Vi value] (fun w => Rd tSlot w att ctt tt) (Option Addr × Nat) (fun p => .tuple #[.slice p.1 (Tab.putR tt key value).length p.2, Vi (Tab.putErr tt key value)]) (fun p S w => SlO tSlot S w p.1 p.2 (Tab.putR tt key value)) := by
 refine fnM (nt := 31) (F0 := [(0, .slice att tt.length ctt), (1, .string key), (2, Vi value)]) Try.func16 rfl Try.ntmps16 rfl rfl (fun w0 hpre => ?_)
 have htt := hpre
 have hlhtt := htt.2.1
 refine c_seq (c_region ?_)
 refine o_as rfl rfl ?_
 refine o_as rfl rfl ?_
 refine o_nil (q_then (c_seq (c_seq (c_region ?_))))
 refine o_mv rfl rfl ?_
 refine o_call0 (v := Vi (Tab.check tt)) rfl (tcheck_ok tt att ctt) hf25 (fun w hw => (rd_base (i := 0) rfl htt) w hw) rfl ?_
 refine o_as rfl rfl ?_
 refine o_nil (q_then (c_seq (c_region ?_)))
 refine o_mv rfl rfl ?_
 refine o_p (p_ne rfl rfl) ?_
 refine o_nil (q_then ?_)
 refine c_cond rfl (fun hc1 => ?_) (fun hc1 => ?_)
 ·simp only [bne_iff_ne, ne_eq] at hc1
  refine c_seq (c_region ?_)
  refine o_mv rfl rfl ?_
  refine o_as rfl rfl ?_
  refine o_as rfl rfl ?_
  refine o_nil (q_then (c_ret ?_))
  refine q_then_ret ?_
  obtain ⟨c1, c2⟩ : _ ∧ _ := by first | exact Tab.p1 (t := tt) (key := key) (v := value) (by assumption) | exact Tab.p2 (t := tt) (key := key) (v := value) hck (by omega) | exact Tab.p2 (t := tt) (key := key) (v := value) hck hrg | exact Tab.p3 (t := tt) (key := key) (v := value) hck hrg (by simpa using hpt) | exact Tab.p4 (t := tt) (key := key) (v := value) hck hrg (by simpa using hpt)
  have hr0 : ([] : List DSlot) = (Tab.putR tt key value) := by
   first | exact c1.symm | exact c2.symm
  have hr1 : ((Tab.check tt) : Int) = (Tab.putErr tt key value) := by
   first | exact c1.symm | exact c2.symm
  refine q_endM (p := (none, 0)) (fun _ => False) (rt2 rfl (r_tmp rfl) (r_tmp rfl)) (i := 0) rfl ?_ ?_ ?_
  ·exact (by have hcc := congr (congrArg (fun (y0 : List DSlot) (y1 : Int) => (.tuple #[.slice none y0.length 0, .int .i64 y1] : Value)) hr0) hr1; exact hcc)
  ·intro w hw b hb; exact hb.elim
  ·intro w hw; exact Eq.mp (congrArg (fun y => SlO tSlot _ w none 0 y) hr0) (SlO.nil tSlot w)
 ·simp only [bne_eq_false_iff_eq] at hc1
  have hck := hc1
  have hln := Tab.ck_len hc1
  refine c_skip (q_then (c_seq (c_seq (c_region ?_))))
  refine o_mv rfl rfl ?_
  refine o_p (p_len_string rfl rfl Try.underlying9) ?_
  refine o_p (p_gt rfl rfl) ?_
  refine o_mv rfl rfl ?_
  refine o_or (p := 22) 4 (!(Tab.okVal value)) ?_ ?_ ?_
  ·intro hb2 hk
   simp only [decide_eq_false_iff_not, Int.not_lt] at hb2
   refine o_unguard 18 rfl rfl ?_
   refine o_mv rfl rfl ?_
   refine o_unguard 18 rfl rfl ?_
   refine o_call0 (v := .bool (Tab.okVal value)) rfl (tright_ok value) hf56 (fun _ _ => trivial) rfl ?_
   refine o_unguard 18 rfl rfl ?_
   refine o_p (p_not (b := (Tab.okVal value)) rfl) ?_
   refine o_pf rfl rfl rfl ?_
   exact o_sub (sr (Sub.skip rfl (Sub.skip rfl (Sub.skip rfl (Sub.skip rfl (Sub.skip rfl (Sub.refl _))))))) hk
  ·intro hb2 hk
   refine o_guard_no rfl 18 rfl rfl rfl rfl rfl ?_
   refine o_guard_no rfl 18 rfl rfl rfl rfl rfl ?_
   refine o_guard_no rfl 18 rfl rfl rfl rfl rfl ?_
   refine o_pt rfl rfl rfl ?_
   exact o_sub (sr (Sub.skip rfl (Sub.skip rfl (Sub.skip rfl (Sub.skip rfl (Sub.skip rfl (Sub.refl _))))))) hk
  refine o_nil (q_then ?_)
  refine c_cond rfl (fun hc3 => ?_) (fun hc3 => ?_)
  ·simp only [Bool.or_eq_true, decide_eq_true_eq, Bool.not_eq_true'] at hc3
   have hrg := hc3
   refine c_seq (c_region ?_)
   refine o_as rfl rfl ?_
   refine o_as rfl rfl ?_
   refine o_nil (q_then (c_ret ?_))
   refine q_then_ret ?_
   obtain ⟨c1, c2⟩ : _ ∧ _ := by first | exact Tab.p1 (t := tt) (key := key) (v := value) (by assumption) | exact Tab.p2 (t := tt) (key := key) (v := value) hck (by omega) | exact Tab.p2 (t := tt) (key := key) (v := value) hck hrg | exact Tab.p3 (t := tt) (key := key) (v := value) hck hrg (by simpa using hpt) | exact Tab.p4 (t := tt) (key := key) (v := value) hck hrg (by simpa using hpt)
   have hr0 : ([] : List DSlot) = (Tab.putR tt key value) := by
    first | exact c1.symm | exact c2.symm
   have hr1 : (3 : Int) = (Tab.putErr tt key value) := by
    first | exact c1.symm | exact c2.symm
   refine q_endM (p := (none, 0)) (fun _ => False) (rt2 rfl (r_tmp rfl) (r_tmp rfl)) (i := 0) rfl ?_ ?_ ?_
   ·exact (by have hcc := congr (congrArg (fun (y0 : List DSlot) (y1 : Int) => (.tuple #[.slice none y0.length 0, .int .i64 y1] : Value)) hr0) hr1; exact hcc)
   ·intro w hw b hb; exact hb.elim
   ·intro w hw; exact Eq.mp (congrArg (fun y => SlO tSlot _ w none 0 y) hr0) (SlO.nil tSlot w)
  ·simp only [Bool.or_eq_false_iff, decide_eq_false_iff_not, Int.not_lt, Bool.not_eq_false'] at hc3
   have hrg := hc3
   refine c_skip (q_then (c_seq (c_region ?_)))
   refine o_mv rfl rfl ?_
   refine o_callM rfl (clone_Slot_ok tt att ctt (by first | assumption | omega | (simp only [List.length_append, List.length_take, List.length_drop, List.length_cons, List.length_nil]; omega))) hf57 (fun w hw => (rd_base (i := 0) rfl htt) w hw) rfl (fun _ _ _ _ ha hA => SlO.agree ha hA) ?_
   rintro ⟨a6, c7⟩ S4
   refine o_know (fun w hw => own_len (i := 0) (T := tSlot) hw rfl) (fun hlr8 => ?_)
   refine o_as rfl rfl ?_
   refine o_nil (q_then (c_seq (c_seq (c_region ?_))))
   refine o_mv rfl rfl ?_
   refine o_mv rfl rfl ?_
   refine o_mv rfl rfl ?_
   refine o_callX (pre := [own tSlot S4 a6 c7 tt]) (R := [base w0]) rfl (tput_ok tt a6 c7 S4 key value (by first | assumption | omega)) hf58 rfl (fun _ _ => trivial) rfl ?_
   rintro ⟨⟩
   refine o_asH (H' := [own tSlot S4 a6 c7 (Tab.put tt key value), base w0]) rfl ?_
   refine o_cast (F' := [(9, .slice a6 (Tab.put tt key value).length c7), (28, .bool (!decide (Tab.putAt tt key < 0)))]) (H := [own tSlot S4 a6 c7 (Tab.put tt key value), base w0]) (H' := [own tSlot S4 a6 c7 (Tab.put tt key value), base w0]) (Sub.cons (by simp only [List.length_set, List.length_reverse, Tab.put_len]; rfl) (sr (Sub.nil _))) (by rfl) ?_
   refine o_p (p_not (b := (!decide (Tab.putAt tt key < 0))) rfl) ?_
   refine o_nil (q_then ?_)
   refine c_cond rfl (fun hc9 => ?_) (fun hc9 => ?_)
   ·simp only [Bool.not_eq_true', Bool.not_eq_false', decide_eq_true_eq] at hc9
    have hpt := hc9
    refine c_seq (c_region ?_)
    refine o_as rfl rfl ?_
    refine o_as rfl rfl ?_
    refine o_nil (q_then (c_ret ?_))
    refine q_then_ret ?_
    obtain ⟨c1, c2⟩ : _ ∧ _ := by first | exact Tab.p1 (t := tt) (key := key) (v := value) (by assumption) | exact Tab.p2 (t := tt) (key := key) (v := value) hck (by omega) | exact Tab.p2 (t := tt) (key := key) (v := value) hck hrg | exact Tab.p3 (t := tt) (key := key) (v := value) hck hrg (by simpa using hpt) | exact Tab.p4 (t := tt) (key := key) (v := value) hck hrg (by simpa using hpt)
    have hr0 : ([] : List DSlot) = (Tab.putR tt key value) := by
     first | exact c1.symm | exact c2.symm
    have hr1 : (8 : Int) = (Tab.putErr tt key value) := by
     first | exact c1.symm | exact c2.symm
    refine q_endM (p := (none, 0)) (fun _ => False) (rt2 rfl (r_tmp rfl) (r_tmp rfl)) (i := 1) rfl ?_ ?_ ?_
    ·exact (by have hcc := congr (congrArg (fun (y0 : List DSlot) (y1 : Int) => (.tuple #[.slice none y0.length 0, .int .i64 y1] : Value)) hr0) hr1; exact hcc)
    ·intro w hw b hb; exact hb.elim
    ·intro w hw; exact Eq.mp (congrArg (fun y => SlO tSlot _ w none 0 y) hr0) (SlO.nil tSlot w)
   ·simp only [Bool.not_eq_false', Bool.not_eq_true', decide_eq_false_iff_not, Int.not_lt] at hc9
    have hpt := hc9
    refine c_skip (q_then (c_seq (c_region ?_)))
    refine o_mv rfl rfl ?_
    refine o_as rfl rfl ?_
    refine o_as rfl rfl ?_
    refine o_nil (q_then (c_ret ?_))
    obtain ⟨c1, c2⟩ : _ ∧ _ := by first | exact Tab.p1 (t := tt) (key := key) (v := value) (by assumption) | exact Tab.p2 (t := tt) (key := key) (v := value) hck (by omega) | exact Tab.p2 (t := tt) (key := key) (v := value) hck hrg | exact Tab.p3 (t := tt) (key := key) (v := value) hck hrg (by simpa using hpt) | exact Tab.p4 (t := tt) (key := key) (v := value) hck hrg (by simpa using hpt)
    have hr0 : ((Tab.put tt key value) : List DSlot) = (Tab.putR tt key value) := by
     first | exact c1.symm | exact c2.symm
    have hr1 : (0 : Int) = (Tab.putErr tt key value) := by
     first | exact c1.symm | exact c2.symm
    refine q_endM (p := (a6, c7)) S4 (rt2 rfl (r_tmp rfl) (r_tmp rfl)) (i := 1) rfl ?_ ?_ ?_
    ·exact (by have hcc := congr (congrArg (fun (y0 : List DSlot) (y1 : Int) => (.tuple #[.slice a6 y0.length c7, .int .i64 y1] : Value)) hr0) hr1; exact hcc)
    ·exact fun w hw => hw.above (i := 1) (j := 0) (by decide) rfl rfl
    ·intro w hw; exact Eq.mp (congrArg (fun y => SlO tSlot _ w a6 c7 y) hr0) ((hw.at (i := 0) rfl).here)
end Go.Proofs.Ythecfjipaepcgaa
