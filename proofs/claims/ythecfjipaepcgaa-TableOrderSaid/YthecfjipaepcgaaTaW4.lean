/- The walks, printed by a program from the translation and a specification. -/
import Derived.Test.YthecfjipaepcgaaTaF
import Derived.Test.YthecfjipaepcgaaTaLaw
import Derived.Test.YthecfjipaepcgaaTaW3
namespace Go.Proofs.Ythecfjipaepcgaa
open Go.Sx Go.RowKit
set_option maxHeartbeats 8000000 in
set_option maxRecDepth 100000 in
theorem tdelete_ok (tt : List DSlot) (att : Option Addr) (ctt : Nat) (key : ByteArray) : FnM Try.prog 17 [.slice att tt.length ctt, .string key] (fun w => Rd tSlot w att ctt tt) (Option Addr × Nat) (fun p => .tuple #[.slice p.1 (Tab.delR tt key).length p.2, Vi (Tab.keyErr tt key)]) (fun p S w => SlO tSlot S w p.1 p.2 (Tab.delR tt key)) := by
 refine fnMR (nt := 89) (F0 := [(0, .slice att tt.length ctt), (1, .string key)]) Try.func17 rfl Try.ntmps17 rfl rfl (fun w0 hpre => ?_)
 have htt := hpre
 have hlhtt := htt.2.1
 refine c_seq (c_region ?_)
 refine o_alloc ze22 rfl (fun B1 => ?_)
 refine o_alloc ze23 rfl (fun B2 => ?_)
 refine o_nil (q_then (c_seq (c_seq (c_region ?_))))
 refine o_mv rfl rfl ?_
 refine o_mv rfl rfl ?_
 refine o_call0 (v := .tuple #[Vi (Tab.has tt key), Vi (Tab.looked tt key), Vi (Tab.keyErr tt key)]) rfl (tget_ok tt att ctt key) hf15 (fun w hw => (rd_base (i := 2) rfl htt) w hw) rfl ?_
 refine o_mv rfl rfl ?_
 refine o_ex rfl rfl rfl ?_
 refine o_ex rfl rfl rfl ?_
 refine o_ex rfl rfl rfl ?_
 refine o_as rfl rfl ?_
 refine o_as rfl rfl ?_
 refine o_as rfl rfl ?_
 refine o_nil (q_then (c_seq (c_region ?_)))
 refine o_mv rfl rfl ?_
 refine o_p (p_ne rfl rfl) ?_
 refine o_nil (q_then ?_)
 refine c_cond rfl (fun hc3 => ?_) (fun hc3 => ?_)
 ·simp only [bne_iff_ne, ne_eq] at hc3
  refine c_seq (c_region ?_)
  refine o_mv rfl rfl ?_
  refine o_store (i := 1) (v := .slice none 0 0) (cs' := [.slice none 0 0]) rfl rfl rfl sz22 rfl rfl rfl ?_
  refine o_store (i := 0) (v := Vi (Tab.keyErr tt key)) (cs' := [Vi (Tab.keyErr tt key)]) rfl rfl rfl sz23 rfl rfl rfl ?_
  refine o_nil (q_then (c_ret ?_))
  refine q_then_ret ?_
  refine q_marks0 ?_
  have hr0 : ([] : List DSlot) = (Tab.delR tt key) := by
   first | exact (Tab.del_bad (by assumption)).symm | exact (Tab.del_ok hke (hI.done (by omega))).symm | exact (Tab.del_ok hke hI.2).symm | exact hI.1.trans hke.symm | exact hke.symm | rfl
  refine q_endM (p := (none, 0)) (fun _ => False) (rt2 rfl (r_cell1 (i := 1) rfl rfl sh22) (r_cell1 (i := 0) rfl rfl sh23)) (i := 2) rfl ?_ ?_ ?_
  ·exact (by have hcc := congrArg (fun (y0 : List DSlot) => (.tuple #[.slice none y0.length 0, Vi (Tab.keyErr tt key)] : Value)) hr0; exact hcc)
  ·intro w hw b hb; exact hb.elim
  ·intro w hw; exact Eq.mp (congrArg (fun y => SlO tSlot _ w none 0 y) hr0) (SlO.nil tSlot w)
 ·simp only [bne_eq_false_iff_eq] at hc3
  have hke := hc3
  have hk0 := Tab.key_ok hc3
  have hln := Tab.ck_len hk0.1
  have hfb := Tab.find_lt key hln
  have hfp := hk0.2.2
  have hks := hk0.2.1
  refine c_skip (q_then (c_seq (c_region ?_)))
  refine o_mv rfl rfl ?_
  refine o_callM rfl (clone_Slot_ok tt att ctt (by first | assumption | omega | (simp only [List.length_append, List.length_take, List.length_drop, List.length_cons, List.length_nil]; omega))) hf57 (fun w hw => (rd_base (i := 2) rfl htt) w hw) rfl (fun _ _ _ _ ha hA => SlO.agree ha hA) ?_
  rintro ⟨a6, c7⟩ S4
  refine o_know (fun w hw => own_len (i := 0) (T := tSlot) hw rfl) (fun hlr8 => ?_)
  refine o_alloc ze22 rfl (fun B9 => ?_)
  refine o_store (i := 0) (v := .slice a6 tt.length c7) (cs' := [.slice a6 tt.length c7]) rfl rfl rfl sz22 rfl rfl rfl ?_
  refine o_nil (q_then (c_seq (c_region ?_)))
  refine o_p (p_load (i := 0) (v := .slice a6 tt.length c7) rfl rfl sh22 rfl) ?_
  refine o_mv rfl rfl ?_
  refine o_call0 (v := .tuple #[Vi ((Tab.find tt key).1), Vi ((Tab.find tt key).2)]) rfl (tfind_ok tt a6 c7 key (by first | assumption | omega)) hf55 (fun w hw => (rd_own (i := 1) rfl) w hw) rfl ?_
  refine o_mv rfl rfl ?_
  refine o_ex rfl rfl rfl ?_
  refine o_ex rfl rfl rfl ?_
  refine o_alloc ze3 rfl (fun B10 => ?_)
  refine o_store (i := 0) (v := Vi ((Tab.find tt key).1)) (cs' := [Vi ((Tab.find tt key).1)]) rfl rfl rfl sz3 rfl rfl rfl ?_
  refine o_as rfl rfl ?_
  refine o_nil (q_then (c_seq (c_region ?_)))
  refine o_p (p_load (i := 1) (v := .slice a6 tt.length c7) rfl rfl sh22 rfl) ?_
  refine o_p (p_load (i := 0) (v := Vi ((Tab.find tt key).1)) rfl rfl sh3 rfl) ?_
  refine o_p (p_build (cells := [.bool false, .string ByteArray.empty, Vi 0]) fp33 ze33 rfl rfl) ?_
  refine o_p (p_indexAddr (L := tt) (T := tSlot) (i := ((Tab.find tt key).1)) rfl rfl (rd_own (i := 2) rfl) Try.underlying22 sz33 (by omega) (by omega)) ?_
  refine o_storeW (i := 2) (T := tSlot) (idx := ((Tab.find tt key).1).toNat) (v := .agg #[.bool false, .string ByteArray.empty, Vi 0]) (vs := [.bool false, .string ByteArray.empty, Vi 0]) (z := (⟨false, ByteArray.empty, 0⟩ : DSlot)) (F' := [(4, .pointer (some ⟨B1, 0, none⟩)), (5, .pointer (some ⟨B2, 0, none⟩)), (9, .pointer (some ⟨B9, 0, none⟩)), (10, .pointer (some ⟨B10, 0, none⟩))]) rfl rfl rfl rfl (by first | assumption | omega | (simp only [List.length_set]; omega)) sz33 rfl rfl rfl rfl (sr (sr (sr (sr (Sub.nil _))))) ?_
  refine o_asH (H := [box B10 [Vi ((Tab.find tt key).1)] 3, box B9 [.slice a6 tt.length c7] 22, own tSlot S4 a6 c7 (tt.set (((Tab.find tt key).1).toNat) (⟨false, ByteArray.empty, 0⟩ : DSlot)), box B2 [Vi 0] 23, box B1 [.slice none 0 0] 22, base w0]) (H' := [box B10 [Vi ((Tab.find tt key).1)] 3, box B9 [.slice a6 (tt.set (((Tab.find tt key).1).toNat) (⟨false, ByteArray.empty, 0⟩ : DSlot)).length c7] 22, own tSlot S4 a6 c7 (tt.set (((Tab.find tt key).1).toNat) (⟨false, ByteArray.empty, 0⟩ : DSlot)), box B2 [Vi 0] 23, box B1 [.slice none 0 0] 22, base w0]) (by simp only [List.length_set]) ?_
  refine o_nil (q_then (c_seq (c_region ?_)))
  refine o_p (p_load (i := 1) (v := .slice a6 (tt.set (((Tab.find tt key).1).toNat) (⟨false, ByteArray.empty, 0⟩ : DSlot)).length c7) rfl rfl sh22 rfl) ?_
  refine o_p (p_eqv (u := Vi ((tt.set (((Tab.find tt key).1).toNat) (⟨false, ByteArray.empty, 0⟩ : DSlot)).length : Int)) (v := Vi (tt.length : Int)) (by simp only [List.length_set]) (p_len_slice rfl rfl Try.underlying22)) ?_
  refine o_alloc ze3 rfl (fun B11 => ?_)
  refine o_store (i := 0) (v := Vi (tt.length : Int)) (cs' := [Vi (tt.length : Int)]) rfl rfl rfl sz3 rfl rfl rfl ?_
  refine o_nil (q_then (c_seq (c_seq (c_region ?_))))
  refine o_p (p_load (i := 0) (v := Vi (tt.length : Int)) rfl rfl sh3 rfl) ?_
  refine o_p (p_load (i := 1) (v := Vi ((Tab.find tt key).1)) rfl rfl sh3 rfl) ?_
  refine o_callX (pre := []) (R := [box B11 [Vi (tt.length : Int)] 3, box B10 [Vi ((Tab.find tt key).1)] 3, box B9 [.slice a6 (tt.set (((Tab.find tt key).1).toNat) (⟨false, ByteArray.empty, 0⟩ : DSlot)).length c7] 22, own tSlot S4 a6 c7 (tt.set (((Tab.find tt key).1).toNat) (⟨false, ByteArray.empty, 0⟩ : DSlot)), box B2 [Vi 0] 23, box B1 [.slice none 0 0] 22, base w0]) rfl (tround_ok (tt.length : Int) ((Tab.find tt key).1)) hf59 rfl (fun _ _ => trivial) rfl ?_
  rintro ⟨B12, B13⟩
  refine o_asH (H' := [box B12 [Vi (tt.length : Int)] 3, box B13 [Vi ((Tab.find tt key).1)] 3, box B11 [Vi (tt.length : Int)] 3, box B10 [Vi ((Tab.find tt key).1)] 3, box B9 [.slice a6 (tt.set (((Tab.find tt key).1).toNat) (⟨false, ByteArray.empty, 0⟩ : DSlot)).length c7] 22, own tSlot S4 a6 c7 (tt.set (((Tab.find tt key).1).toNat) (⟨false, ByteArray.empty, 0⟩ : DSlot)), box B2 [Vi 0] 23, box B1 [.slice none 0 0] 22, base w0]) rfl ?_
  refine o_nil (q_then (c_block ?_))
  refine c_rangeFunc (f := 90) (caps := [.pointer (some ⟨B12, 0, none⟩), .pointer (some ⟨B13, 0, none⟩)]) (Pr := (fun e w => ((box B12 [Vi (tt.length : Int)] 3).A w ∧ (outer w [e]).S B12) ∧ ((box B13 [Vi ((Tab.find tt key).1)] 3).A w ∧ (outer w [e]).S B13))) (X := Unit) (encs := (fun x k => [Vi (Tab.place ((Tab.find tt key).1) (tt.length : Int) k)])) (E := (fun x k => [])) (N := (tt.length : Int).toNat) rfl hf90 (round1_ok (tt.length : Int) B12 ((Tab.find tt key).1) B13 (by first | omega | (simp only [List.length_set]; omega))) (fun _ _ => rfl) (by decide) (St := Int × Int × Value × List DSlot × Option Addr × Nat × (Nat → Prop))
   (fun ⟨ho, re, rv, ls, als, cls, Sls⟩ => [box B10 [Vi ho] 3, box B9 [.slice als ls.length cls] 22, own tSlot Sls als cls ls, box B2 [Vi re] 23, box B1 [rv] 22])
   (fun k ⟨ho, re, rv, ls, als, cls, Sls⟩ => Tab.DI tt key ls ho k)
   (fun c ⟨ho, re, rv, ls, als, cls, Sls⟩ => (c = .ret ∧ (rv = .slice als ls.length cls ∧ re = 0 ∧ ls = Tab.drop tt key)))
   [box B12 [Vi (tt.length : Int)] 3, box B13 [Vi ((Tab.find tt key).1)] 3, box B11 [Vi (tt.length : Int)] 3, base w0]
   (((Tab.find tt key).1), 0, (.slice none 0 0), (tt.set (((Tab.find tt key).1).toNat) (⟨false, ByteArray.empty, 0⟩ : DSlot)), a6, c7, S4) ?_ ?_ ?_ ?_ ?_ ?_
  ·exact Tab.DI.start hk0.1 hfp hfb.2
  ·exact fun w hw => hw.pick (H' := [box B10 [Vi ((Tab.find tt key).1)] 3, box B9 [.slice a6 (tt.set (((Tab.find tt key).1).toNat) (⟨false, ByteArray.empty, 0⟩ : DSlot)).length c7] 22, own tSlot S4 a6 c7 (tt.set (((Tab.find tt key).1).toNat) (⟨false, ByteArray.empty, 0⟩ : DSlot)), box B2 [Vi 0] 23, box B1 [.slice none 0 0] 22, box B12 [Vi (tt.length : Int)] 3, box B13 [Vi ((Tab.find tt key).1)] 3, box B11 [Vi (tt.length : Int)] 3, base w0]) [3, 4, 5, 6, 7, 0, 1, 2, 8] (by decide) rfl
  ·intro D e0 W1 hW1
   exact ⟨boxX (i := 2) (js := [0]) rfl (by decide) rfl W1 hW1, boxX (i := 3) (js := [0]) rfl (by decide) rfl W1 hW1⟩
  ·rintro l_ rc D e0 W1 hW1 x_ k ⟨ho, re, rv, ls, als, cls, Sls⟩ hk hI
   have hll := hI.len
   have hhb := hI.hob
   have hpb := Tab.place_bd (h := (Tab.find tt key).1) (n := (tt.length : Int)) (by omega) (by omega) k
   have hkk := hI.key hpb
   have hn64 : (tt.length : Int) ≤ 64 := by omega
   have hom := Tab.home_bd (ls.getD (Tab.place (Tab.find tt key).1 (tt.length : Int) k).toNat default).key (n := (tt.length : Int)) (by omega)
   have hobr0_B11 := boxX (i := 4) (B := B11) (cs := [Vi (tt.length : Int)]) (U := 3) (js := [0]) (pre := [e0]) rfl (by decide) rfl W1 hW1
   refine c_region ?_
   refine o_as rfl rfl ?_
   refine o_nil ?_
   refine q_begin (i := 1) rfl ?_
   refine c_block (c_block (c_seq (c_region ?_)))
   refine o_mv rfl rfl ?_
   refine o_p (p_load (i := 2) (v := Vi ho) rfl rfl sh3 rfl) ?_
   refine o_p (p_eq rfl rfl) ?_
   refine o_as rfl rfl ?_
   refine o_nil (q_then ?_)
   refine c_cond rfl (fun hc14 => ?_) (fun hc14 => ?_)
   ·simp only [beq_iff_eq] at hc14
    have heq := hc14
    refine c_exit ?_
    refine q_block_pass rfl (q_block_exit ?_)
    refine q_next (ho, re, (rv), ls, als, cls, Sls) ?_ (fun w hw => hw.pick (H' := [outer W1 [e0], loopE l_ (recd rc .busy none), box B10 [Vi ho] 3, box B9 [.slice als ls.length cls] 22, own tSlot Sls als cls ls, box B2 [Vi re] 23, box B1 [rv] 22]) [0, 1, 2, 3, 4, 5, 6] (by decide) rfl)
    first | exact hI.same (by omega) heq | exact hI.move hpb (by omega) heq hu hmv | exact hI.keep (by omega) heq hu hmv
   ·simp only [beq_eq_false_iff_ne, ne_eq] at hc14
    have heq := hc14
    refine c_seq (c_region ?_)
    refine o_p (p_load (i := 3) (v := .slice als ls.length cls) rfl rfl sh22 rfl) ?_
    refine o_mv rfl rfl ?_
    refine o_p (p_indexAddr (L := ls) (T := tSlot) (i := (Tab.place ((Tab.find tt key).1) (tt.length : Int) k)) rfl rfl (rd_own (i := 4) rfl) Try.underlying22 sz33 (by omega) (by omega)) ?_
    refine o_p (p_fieldAddrE rfl fo33_0) ?_
    refine o_p (p_loadF (i := (Tab.place ((Tab.find tt key).1) (tt.length : Int) k).toNat) (j := 0) (T := tSlot) (L := ls) (v := .bool ((ls.getD ((Tab.place ((Tab.find tt key).1) (tt.length : Int) k).toNat) default).used)) rfl (rd_own (i := 4) rfl) (by first | assumption | omega) sh4 (congrArg (fun z => (tSlot.enc z)[0]?) (getd_at (by first | assumption | omega) default))) ?_
    refine o_p (p_not (b := (ls.getD ((Tab.place ((Tab.find tt key).1) (tt.length : Int) k).toNat) default).used) rfl) ?_
    refine o_as rfl rfl ?_
    refine o_nil (q_then ?_)
    refine c_cond rfl (fun hc15 => ?_) (fun hc15 => ?_)
    ·simp only [Bool.not_eq_true'] at hc15
     have hu := hc15
     refine c_seq (c_region ?_)
     refine o_p (p_load (i := 3) (v := .slice als ls.length cls) rfl rfl sh22 rfl) ?_
     refine o_store (i := 6) (v := .slice als ls.length cls) (cs' := [.slice als ls.length cls]) rfl rfl rfl sz22 rfl rfl rfl ?_
     refine o_store (i := 5) (v := Vi 0) (cs' := [Vi 0]) rfl rfl rfl sz23 rfl rfl rfl ?_
     refine o_nil (q_then (c_ret ?_))
     refine q_block_ret (q_block_ret ?_)
     refine q_leave (ho, 0, (.slice als ls.length cls), ls, als, cls, Sls) ?_ (fun w hw => hw.pick (H' := [outer W1 [e0], loopE l_ (recd rc .busy none), box B10 [Vi ho] 3, box B9 [.slice als ls.length cls] 22, own tSlot Sls als cls ls, box B2 [Vi 0] 23, box B1 [.slice als ls.length cls] 22]) [0, 1, 2, 3, 4, 5, 6] (by decide) rfl)
     refine ⟨rfl, ?_⟩
     exact ⟨rfl, rfl, hI.stop (by omega) heq hu⟩
    ·simp only [Bool.not_eq_false'] at hc15
     have hu := hc15
     refine c_seq ?_
     refine c_drawR hmix (by decide) (fun _ _ h => h) (by kernel_rfl) ?_
     refine w_mv rfl rfl ?_
     refine w_p (p_load (i := 3) (v := .slice als ls.length cls) rfl rfl sh22 rfl) ?_
     refine w_mv rfl rfl ?_
     refine w_p (p_indexAddr (L := ls) (T := tSlot) (i := (Tab.place ((Tab.find tt key).1) (tt.length : Int) k)) rfl rfl (rd_own (i := 4) rfl) Try.underlying22 sz33 (by omega) (by omega)) ?_
     refine w_p (p_fieldAddrE rfl fo33_1) ?_
     refine w_p (p_loadF (i := (Tab.place ((Tab.find tt key).1) (tt.length : Int) k).toNat) (j := 1) (T := tSlot) (L := ls) (v := .string ((ls.getD ((Tab.place ((Tab.find tt key).1) (tt.length : Int) k).toNat) default).key)) rfl (rd_own (i := 4) rfl) (by first | assumption | omega) sh9 (congrArg (fun z => (tSlot.enc z)[1]?) (getd_at (by first | assumption | omega) default))) ?_
     refine w_p (p_loadR (v := Vi (tt.length : Int)) rfl (rbox_outer (i := 0) rfl hobr0_B11) sh3 rfl) ?_
     refine w_call0 (v := Vi (Tab.home ((ls.getD ((Tab.place ((Tab.find tt key).1) (tt.length : Int) k).toNat) default).key) (tt.length : Int))) rfl (thome_ok ((ls.getD ((Tab.place ((Tab.find tt key).1) (tt.length : Int) k).toNat) default).key) (tt.length : Int) (by first | assumption | omega | exact hy1.2.2.2 | exact hy1.2.2)) hf60 (fun _ _ => trivial) rfl ?_
     refine w_p (p_subb rfl rfl (Tab.in1 hpb hom hn64)) ?_
     refine w_p (p_loadR (v := Vi (tt.length : Int)) rfl (rbox_outer (i := 0) rfl hobr0_B11) sh3 rfl) ?_
     refine w_p (p_addb rfl rfl (Tab.in2 hpb hom hn64)) ?_
     refine w_p (p_loadR (v := Vi (tt.length : Int)) rfl (rbox_outer (i := 0) rfl hobr0_B11) sh3 rfl) ?_
     refine w_p (p_rem (p := (((Tab.place ((Tab.find tt key).1) (tt.length : Int) k) - (Tab.home ((ls.getD ((Tab.place ((Tab.find tt key).1) (tt.length : Int) k).toNat) default).key) (tt.length : Int))) + (tt.length : Int))) (q := (tt.length : Int)) rfl rfl (by omega)) ?_
     refine w_mv rfl rfl ?_
     refine w_p (p_load (i := 2) (v := Vi ho) rfl rfl sh3 rfl) ?_
     refine w_p (p_subb rfl rfl (by omega)) ?_
     refine w_p (p_loadR (v := Vi (tt.length : Int)) rfl (rbox_outer (i := 0) rfl hobr0_B11) sh3 rfl) ?_
     refine w_p (p_addb rfl rfl (by omega)) ?_
     refine w_p (p_loadR (v := Vi (tt.length : Int)) rfl (rbox_outer (i := 0) rfl hobr0_B11) sh3 rfl) ?_
     refine w_p (p_rem (p := (((Tab.place ((Tab.find tt key).1) (tt.length : Int) k) - ho) + (tt.length : Int))) (q := (tt.length : Int)) rfl rfl (by omega)) ?_
     refine w_p (p_ge rfl rfl) ?_
     refine w_p (p_assign rfl) ?_
     refine w_nil (q_then ?_)
     refine c_cond rfl (fun hc16 => ?_) (fun hc16 => ?_)
     ·simp only [decide_eq_true_eq] at hc16
      have hmv := hc16
      refine c_cut (G := Unit) (fun _ => []) (fun _ => [outer W1 [e0], loopE l_ (recd rc .busy none), box B10 [Vi (Tab.place ((Tab.find tt key).1) (tt.length : Int) k)] 3, box B9 [.slice als ls.length cls] 22, own tSlot Sls als cls ((ls.set ho.toNat (ls.getD ((Tab.place ((Tab.find tt key).1) (tt.length : Int) k).toNat) default)).set ((Tab.place ((Tab.find tt key).1) (tt.length : Int) k).toNat) (⟨false, ByteArray.empty, 0⟩ : DSlot)), box B2 [Vi re] 23, box B1 [rv] 22]) (fun K hK18 => ?_) ?_
      ·refine c_heldR hmix (by decide) (fun _ _ h => h) [outer W1 [e0], loopE l_ (recd rc .busy none), box B9 [.slice als ls.length cls] 22, box B2 [Vi re] 23, box B1 [rv] 22] rfl rfl ?_
       refine h_tk (i := 0) (ls := #[T1,F0,F0,F0,F0,F0,F0,F0,F0,F0,F0,F0,F0,F0,F0]) rfl (p_load (i := 2) (v := .slice als ls.length cls) rfl rfl sh22 rfl) (dp (lj (lj (lz (lj (lz (lj (lj (ln))))))))) ?_
       refine h_tk (i := 2) (ls := #[T1,F0,T1,F0,F0,F0,F0,F0,F0,F0,F0,F0,F0,F0,F0]) rfl (p_load (i := 2) (v := .slice als ls.length cls) rfl rfl sh22 rfl) (dp (lj (lj (lz (lj (lz (lj (lj (ln))))))))) ?_
       refine h_tk (i := 3) (ls := #[T1,F0,T1,T1,F0,F0,F0,F0,F0,F0,F0,F0,F0,F0,F0]) rfl (p_move rfl) (dp (lj (lj (lz (lj (lz (lj (lj (ln))))))))) ?_
       refine h_tk (i := 4) (ls := #[T1,F0,T1,T1,T1,F0,F0,F0,F0,F0,F0,F0,F0,F0,F0]) rfl (p_load (i := 2) (v := .slice als ls.length cls) rfl rfl sh22 rfl) (dp (lj (lj (lz (lj (lz (lj (lj (ln))))))))) ?_
       refine h_tk (i := 5) (ls := #[T1,F0,T1,T1,T1,T1,F0,F0,F0,F0,F0,F0,F0,F0,F0]) rfl (p_move rfl) (dp (lj (lj (lz (lj (lz (lj (lj (ln))))))))) ?_
       refine h_tk (i := 8) (ls := #[T1,F0,T1,T1,T1,T1,F0,F0,T1,F0,F0,F0,F0,F0,F0]) rfl (p_build (cells := [.bool false, .string ByteArray.empty, Vi 0]) fp33 ze33 rfl rfl) (dp (lj (lj (lz (lj (lz (lj (lj (ln))))))))) ?_
       refine h_tk (i := 9) (ls := #[T1,F0,T1,T1,T1,T1,F0,F0,T1,T1,F0,F0,F0,F0,F0]) rfl (p_move rfl) (dp (lj (lj (lz (lj (lz (lj (lj (ln))))))))) ?_
       refine h_two (i := 1) (j := 6) (ls := #[T1,T1,T1,T1,T1,T1,F0,F0,T1,T1,F0,F0,F0,F0,F0]) (ls' := #[T1,F0,T1,T1,T1,T1,T1,F0,T1,T1,F0,F0,F0,F0,F0]) (by kernel_rfl) rfl rfl rfl rfl ?_ ?_
       ·refine o_p (p_load (i := 2) (v := Vi ho) rfl rfl sh3 rfl) ?_
        refine o_nil ?_
        refine h_next (dp (lj (lj (lz (lj (lz (lj (lj (ln))))))))) ?_
        refine h_one (i := 6) (ls := #[T1,T1,T1,T1,T1,T1,T1,F0,T1,T1,F0,F0,F0,F0,F0]) (by kernel_rfl) rfl rfl ?_
        refine o_p (p_indexAddr (L := ls) (T := tSlot) (i := (Tab.place ((Tab.find tt key).1) (tt.length : Int) k)) rfl rfl (rd_own (i := 4) rfl) Try.underlying22 sz33 (by omega) (by omega)) ?_
        refine o_nil ?_
        refine h_next (dp (lj (lj (lz (lj (lz (lj (lj (ln))))))))) ?_
        refine h_one (i := 7) (ls := #[T1,T1,T1,T1,T1,T1,T1,T1,T1,T1,F0,F0,F0,F0,F0]) (by kernel_rfl) rfl rfl ?_
        refine o_p (p_loadEn (i := (Tab.place ((Tab.find tt key).1) (tt.length : Int) k).toNat) (T := tSlot) (L := ls) (vs := [.bool ((ls.getD ((Tab.place ((Tab.find tt key).1) (tt.length : Int) k).toNat) default).used), .string ((ls.getD ((Tab.place ((Tab.find tt key).1) (tt.length : Int) k).toNat) default).key), Vi ((ls.getD ((Tab.place ((Tab.find tt key).1) (tt.length : Int) k).toNat) default).value)]) rfl (rd_own (i := 4) rfl) (by first | assumption | omega) sh33 (congrArg tSlot.enc (getd_at (by first | assumption | omega) default))) ?_
        refine o_nil ?_
        refine h_next (dp (lj (lj (lz (lj (lz (lj (lj (ln))))))))) ?_
        refine h_one (i := 10) (ls := #[T1,T1,T1,T1,T1,T1,T1,T1,T1,T1,T1,F0,F0,F0,F0]) (by kernel_rfl) rfl rfl ?_
        refine o_p (p_indexAddr (L := ls) (T := tSlot) (i := ho) rfl rfl (rd_own (i := 4) rfl) Try.underlying22 sz33 (by omega) (by omega)) ?_
        refine o_nil ?_
        refine h_next (dp (lj (lj (lz (lj (lz (lj (lj (ln))))))))) ?_
        refine h_one (i := 11) (ls := #[T1,T1,T1,T1,T1,T1,T1,T1,T1,T1,T1,T1,F0,F0,F0]) (by kernel_rfl) rfl rfl ?_
        refine o_storeW (i := 4) (T := tSlot) (idx := ho.toNat) (v := .agg #[.bool ((ls.getD ((Tab.place ((Tab.find tt key).1) (tt.length : Int) k).toNat) default).used), .string ((ls.getD ((Tab.place ((Tab.find tt key).1) (tt.length : Int) k).toNat) default).key), Vi ((ls.getD ((Tab.place ((Tab.find tt key).1) (tt.length : Int) k).toNat) default).value)]) (vs := [.bool ((ls.getD ((Tab.place ((Tab.find tt key).1) (tt.length : Int) k).toNat) default).used), .string ((ls.getD ((Tab.place ((Tab.find tt key).1) (tt.length : Int) k).toNat) default).key), Vi ((ls.getD ((Tab.place ((Tab.find tt key).1) (tt.length : Int) k).toNat) default).value)]) (z := (ls.getD ((Tab.place ((Tab.find tt key).1) (tt.length : Int) k).toNat) default)) rfl rfl rfl rfl (by first | assumption | omega | (simp only [List.length_set]; omega)) sz33 rfl rfl rfl rfl (Sub.refl _) ?_
        refine o_nil ?_
        refine h_next (dp (lj (lj (lz (lj (lz (lj (lj (ln))))))))) ?_
        refine h_one (i := 12) (ls := #[T1,T1,T1,T1,T1,T1,T1,T1,T1,T1,T1,T1,T1,F0,F0]) (by kernel_rfl) rfl rfl ?_
        refine o_p (p_indexAddrS (T := tSlot) (i := (Tab.place ((Tab.find tt key).1) (tt.length : Int) k)) (j := 4) (m := ls.length) rfl rfl rfl (by simp only [List.length_set]) Try.underlying22 sz33 (by omega) (by omega)) ?_
        refine o_nil ?_
        refine h_next (dp (lj (lj (lz (lj (lz (lj (lj (ln))))))))) ?_
        refine h_one (i := 13) (ls := #[T1,T1,T1,T1,T1,T1,T1,T1,T1,T1,T1,T1,T1,T1,F0]) (by kernel_rfl) rfl rfl ?_
        refine o_storeW (i := 4) (T := tSlot) (idx := (Tab.place ((Tab.find tt key).1) (tt.length : Int) k).toNat) (v := .agg #[.bool false, .string ByteArray.empty, Vi 0]) (vs := [.bool false, .string ByteArray.empty, Vi 0]) (z := (⟨false, ByteArray.empty, 0⟩ : DSlot)) rfl rfl rfl rfl (by first | assumption | omega | (simp only [List.length_set]; omega)) sz33 rfl rfl rfl rfl (Sub.refl _) ?_
        refine o_nil ?_
        refine h_next (dp (lj (lj (lz (lj (lz (lj (lj (ln))))))))) ?_
        refine h_one (i := 14) (ls := #[T1,T1,T1,T1,T1,T1,T1,T1,T1,T1,T1,T1,T1,T1,T1]) (by kernel_rfl) rfl rfl ?_
        refine o_store (i := 2) (v := Vi (Tab.place ((Tab.find tt key).1) (tt.length : Int) k)) (cs' := [Vi (Tab.place ((Tab.find tt key).1) (tt.length : Int) k)]) rfl rfl rfl sz3 rfl rfl rfl ?_
        refine o_nil ?_
        refine h_next (dp (lj (lj (lz (lj (lz (lj (lj (ln))))))))) ?_
        refine h_done (by kernel_rfl) ?_
        refine q_kont hK18 () (Sub.nil _) (pk [0, 1, 2, 3, 4, 5, 6])
       ·refine o_p (p_indexAddr (L := ls) (T := tSlot) (i := (Tab.place ((Tab.find tt key).1) (tt.length : Int) k)) rfl rfl (rd_own (i := 4) rfl) Try.underlying22 sz33 (by omega) (by omega)) ?_
        refine o_nil ?_
        refine h_next (dp (lj (lj (lz (lj (lz (lj (lj (ln))))))))) ?_
        refine h_two (i := 1) (j := 7) (ls := #[T1,T1,T1,T1,T1,T1,T1,F0,T1,T1,F0,F0,F0,F0,F0]) (ls' := #[T1,F0,T1,T1,T1,T1,T1,T1,T1,T1,F0,F0,F0,F0,F0]) (by kernel_rfl) rfl rfl rfl rfl ?_ ?_
        ·refine o_p (p_load (i := 2) (v := Vi ho) rfl rfl sh3 rfl) ?_
         refine o_nil ?_
         refine h_next (dp (lj (lj (lz (lj (lz (lj (lj (ln))))))))) ?_
         refine h_one (i := 7) (ls := #[T1,T1,T1,T1,T1,T1,T1,T1,T1,T1,F0,F0,F0,F0,F0]) (by kernel_rfl) rfl rfl ?_
         refine o_p (p_loadEn (i := (Tab.place ((Tab.find tt key).1) (tt.length : Int) k).toNat) (T := tSlot) (L := ls) (vs := [.bool ((ls.getD ((Tab.place ((Tab.find tt key).1) (tt.length : Int) k).toNat) default).used), .string ((ls.getD ((Tab.place ((Tab.find tt key).1) (tt.length : Int) k).toNat) default).key), Vi ((ls.getD ((Tab.place ((Tab.find tt key).1) (tt.length : Int) k).toNat) default).value)]) rfl (rd_own (i := 4) rfl) (by first | assumption | omega) sh33 (congrArg tSlot.enc (getd_at (by first | assumption | omega) default))) ?_
         refine o_nil ?_
         refine h_next (dp (lj (lj (lz (lj (lz (lj (lj (ln))))))))) ?_
         refine h_one (i := 10) (ls := #[T1,T1,T1,T1,T1,T1,T1,T1,T1,T1,T1,F0,F0,F0,F0]) (by kernel_rfl) rfl rfl ?_
         refine o_p (p_indexAddr (L := ls) (T := tSlot) (i := ho) rfl rfl (rd_own (i := 4) rfl) Try.underlying22 sz33 (by omega) (by omega)) ?_
         refine o_nil ?_
         refine h_next (dp (lj (lj (lz (lj (lz (lj (lj (ln))))))))) ?_
         refine h_one (i := 11) (ls := #[T1,T1,T1,T1,T1,T1,T1,T1,T1,T1,T1,T1,F0,F0,F0]) (by kernel_rfl) rfl rfl ?_
         refine o_storeW (i := 4) (T := tSlot) (idx := ho.toNat) (v := .agg #[.bool ((ls.getD ((Tab.place ((Tab.find tt key).1) (tt.length : Int) k).toNat) default).used), .string ((ls.getD ((Tab.place ((Tab.find tt key).1) (tt.length : Int) k).toNat) default).key), Vi ((ls.getD ((Tab.place ((Tab.find tt key).1) (tt.length : Int) k).toNat) default).value)]) (vs := [.bool ((ls.getD ((Tab.place ((Tab.find tt key).1) (tt.length : Int) k).toNat) default).used), .string ((ls.getD ((Tab.place ((Tab.find tt key).1) (tt.length : Int) k).toNat) default).key), Vi ((ls.getD ((Tab.place ((Tab.find tt key).1) (tt.length : Int) k).toNat) default).value)]) (z := (ls.getD ((Tab.place ((Tab.find tt key).1) (tt.length : Int) k).toNat) default)) rfl rfl rfl rfl (by first | assumption | omega | (simp only [List.length_set]; omega)) sz33 rfl rfl rfl rfl (Sub.refl _) ?_
         refine o_nil ?_
         refine h_next (dp (lj (lj (lz (lj (lz (lj (lj (ln))))))))) ?_
         refine h_one (i := 12) (ls := #[T1,T1,T1,T1,T1,T1,T1,T1,T1,T1,T1,T1,T1,F0,F0]) (by kernel_rfl) rfl rfl ?_
         refine o_p (p_indexAddrS (T := tSlot) (i := (Tab.place ((Tab.find tt key).1) (tt.length : Int) k)) (j := 4) (m := ls.length) rfl rfl rfl (by simp only [List.length_set]) Try.underlying22 sz33 (by omega) (by omega)) ?_
         refine o_nil ?_
         refine h_next (dp (lj (lj (lz (lj (lz (lj (lj (ln))))))))) ?_
         refine h_one (i := 13) (ls := #[T1,T1,T1,T1,T1,T1,T1,T1,T1,T1,T1,T1,T1,T1,F0]) (by kernel_rfl) rfl rfl ?_
         refine o_storeW (i := 4) (T := tSlot) (idx := (Tab.place ((Tab.find tt key).1) (tt.length : Int) k).toNat) (v := .agg #[.bool false, .string ByteArray.empty, Vi 0]) (vs := [.bool false, .string ByteArray.empty, Vi 0]) (z := (⟨false, ByteArray.empty, 0⟩ : DSlot)) rfl rfl rfl rfl (by first | assumption | omega | (simp only [List.length_set]; omega)) sz33 rfl rfl rfl rfl (Sub.refl _) ?_
         refine o_nil ?_
         refine h_next (dp (lj (lj (lz (lj (lz (lj (lj (ln))))))))) ?_
         refine h_one (i := 14) (ls := #[T1,T1,T1,T1,T1,T1,T1,T1,T1,T1,T1,T1,T1,T1,T1]) (by kernel_rfl) rfl rfl ?_
         refine o_store (i := 2) (v := Vi (Tab.place ((Tab.find tt key).1) (tt.length : Int) k)) (cs' := [Vi (Tab.place ((Tab.find tt key).1) (tt.length : Int) k)]) rfl rfl rfl sz3 rfl rfl rfl ?_
         refine o_nil ?_
         refine h_next (dp (lj (lj (lz (lj (lz (lj (lj (ln))))))))) ?_
         refine h_done (by kernel_rfl) ?_
         refine q_kont hK18 () (Sub.nil _) (pk [0, 1, 2, 3, 4, 5, 6])
        ·refine o_p (p_loadEn (i := (Tab.place ((Tab.find tt key).1) (tt.length : Int) k).toNat) (T := tSlot) (L := ls) (vs := [.bool ((ls.getD ((Tab.place ((Tab.find tt key).1) (tt.length : Int) k).toNat) default).used), .string ((ls.getD ((Tab.place ((Tab.find tt key).1) (tt.length : Int) k).toNat) default).key), Vi ((ls.getD ((Tab.place ((Tab.find tt key).1) (tt.length : Int) k).toNat) default).value)]) rfl (rd_own (i := 4) rfl) (by first | assumption | omega) sh33 (congrArg tSlot.enc (getd_at (by first | assumption | omega) default))) ?_
         refine o_nil ?_
         refine h_next (dp (lj (lj (lz (lj (lz (lj (lj (ln))))))))) ?_
         refine h_one (i := 1) (ls := #[T1,T1,T1,T1,T1,T1,T1,T1,T1,T1,F0,F0,F0,F0,F0]) (by kernel_rfl) rfl rfl ?_
         refine o_p (p_load (i := 2) (v := Vi ho) rfl rfl sh3 rfl) ?_
         refine o_nil ?_
         refine h_next (dp (lj (lj (lz (lj (lz (lj (lj (ln))))))))) ?_
         refine h_one (i := 10) (ls := #[T1,T1,T1,T1,T1,T1,T1,T1,T1,T1,T1,F0,F0,F0,F0]) (by kernel_rfl) rfl rfl ?_
         refine o_p (p_indexAddr (L := ls) (T := tSlot) (i := ho) rfl rfl (rd_own (i := 4) rfl) Try.underlying22 sz33 (by omega) (by omega)) ?_
         refine o_nil ?_
         refine h_next (dp (lj (lj (lz (lj (lz (lj (lj (ln))))))))) ?_
         refine h_one (i := 11) (ls := #[T1,T1,T1,T1,T1,T1,T1,T1,T1,T1,T1,T1,F0,F0,F0]) (by kernel_rfl) rfl rfl ?_
         refine o_storeW (i := 4) (T := tSlot) (idx := ho.toNat) (v := .agg #[.bool ((ls.getD ((Tab.place ((Tab.find tt key).1) (tt.length : Int) k).toNat) default).used), .string ((ls.getD ((Tab.place ((Tab.find tt key).1) (tt.length : Int) k).toNat) default).key), Vi ((ls.getD ((Tab.place ((Tab.find tt key).1) (tt.length : Int) k).toNat) default).value)]) (vs := [.bool ((ls.getD ((Tab.place ((Tab.find tt key).1) (tt.length : Int) k).toNat) default).used), .string ((ls.getD ((Tab.place ((Tab.find tt key).1) (tt.length : Int) k).toNat) default).key), Vi ((ls.getD ((Tab.place ((Tab.find tt key).1) (tt.length : Int) k).toNat) default).value)]) (z := (ls.getD ((Tab.place ((Tab.find tt key).1) (tt.length : Int) k).toNat) default)) rfl rfl rfl rfl (by first | assumption | omega | (simp only [List.length_set]; omega)) sz33 rfl rfl rfl rfl (Sub.refl _) ?_
         refine o_nil ?_
         refine h_next (dp (lj (lj (lz (lj (lz (lj (lj (ln))))))))) ?_
         refine h_one (i := 12) (ls := #[T1,T1,T1,T1,T1,T1,T1,T1,T1,T1,T1,T1,T1,F0,F0]) (by kernel_rfl) rfl rfl ?_
         refine o_p (p_indexAddrS (T := tSlot) (i := (Tab.place ((Tab.find tt key).1) (tt.length : Int) k)) (j := 4) (m := ls.length) rfl rfl rfl (by simp only [List.length_set]) Try.underlying22 sz33 (by omega) (by omega)) ?_
         refine o_nil ?_
         refine h_next (dp (lj (lj (lz (lj (lz (lj (lj (ln))))))))) ?_
         refine h_one (i := 13) (ls := #[T1,T1,T1,T1,T1,T1,T1,T1,T1,T1,T1,T1,T1,T1,F0]) (by kernel_rfl) rfl rfl ?_
         refine o_storeW (i := 4) (T := tSlot) (idx := (Tab.place ((Tab.find tt key).1) (tt.length : Int) k).toNat) (v := .agg #[.bool false, .string ByteArray.empty, Vi 0]) (vs := [.bool false, .string ByteArray.empty, Vi 0]) (z := (⟨false, ByteArray.empty, 0⟩ : DSlot)) rfl rfl rfl rfl (by first | assumption | omega | (simp only [List.length_set]; omega)) sz33 rfl rfl rfl rfl (Sub.refl _) ?_
         refine o_nil ?_
         refine h_next (dp (lj (lj (lz (lj (lz (lj (lj (ln))))))))) ?_
         refine h_one (i := 14) (ls := #[T1,T1,T1,T1,T1,T1,T1,T1,T1,T1,T1,T1,T1,T1,T1]) (by kernel_rfl) rfl rfl ?_
         refine o_store (i := 2) (v := Vi (Tab.place ((Tab.find tt key).1) (tt.length : Int) k)) (cs' := [Vi (Tab.place ((Tab.find tt key).1) (tt.length : Int) k)]) rfl rfl rfl sz3 rfl rfl rfl ?_
         refine o_nil ?_
         refine h_next (dp (lj (lj (lz (lj (lz (lj (lj (ln))))))))) ?_
         refine h_done (by kernel_rfl) ?_
         refine q_kont hK18 () (Sub.nil _) (pk [0, 1, 2, 3, 4, 5, 6])
      rintro _
      show SQ _ 89 W1 _ _ [] [outer W1 [e0], loopE l_ (recd rc .busy none), box B10 [Vi (Tab.place ((Tab.find tt key).1) (tt.length : Int) k)] 3, box B9 [.slice als ls.length cls] 22, own tSlot Sls als cls ((ls.set ho.toNat (ls.getD ((Tab.place ((Tab.find tt key).1) (tt.length : Int) k).toNat) default)).set ((Tab.place ((Tab.find tt key).1) (tt.length : Int) k).toNat) (⟨false, ByteArray.empty, 0⟩ : DSlot)), box B2 [Vi re] 23, box B1 [rv] 22]
      refine q_cast (F' := []) (H := [outer W1 [e0], loopE l_ (recd rc .busy none), box B10 [Vi (Tab.place ((Tab.find tt key).1) (tt.length : Int) k)] 3, box B9 [.slice als ls.length cls] 22, own tSlot Sls als cls ((ls.set ho.toNat (ls.getD ((Tab.place ((Tab.find tt key).1) (tt.length : Int) k).toNat) default)).set ((Tab.place ((Tab.find tt key).1) (tt.length : Int) k).toNat) (⟨false, ByteArray.empty, 0⟩ : DSlot)), box B2 [Vi re] 23, box B1 [rv] 22]) (H' := [outer W1 [e0], loopE l_ (recd rc .busy none), box B10 [Vi (Tab.place ((Tab.find tt key).1) (tt.length : Int) k)] 3, box B9 [.slice als ((ls.set ho.toNat (ls.getD ((Tab.place ((Tab.find tt key).1) (tt.length : Int) k).toNat) default)).set ((Tab.place ((Tab.find tt key).1) (tt.length : Int) k).toNat) (⟨false, ByteArray.empty, 0⟩ : DSlot)).length cls] 22, own tSlot Sls als cls ((ls.set ho.toNat (ls.getD ((Tab.place ((Tab.find tt key).1) (tt.length : Int) k).toNat) default)).set ((Tab.place ((Tab.find tt key).1) (tt.length : Int) k).toNat) (⟨false, ByteArray.empty, 0⟩ : DSlot)), box B2 [Vi re] 23, box B1 [rv] 22]) (Sub.nil _) (by simp only [List.length_set, List.length_reverse]) ?_
      refine q_block_normal (q_block_normal ?_)
      refine q_next ((Tab.place ((Tab.find tt key).1) (tt.length : Int) k), re, (rv), ((ls.set ho.toNat (ls.getD ((Tab.place ((Tab.find tt key).1) (tt.length : Int) k).toNat) default)).set ((Tab.place ((Tab.find tt key).1) (tt.length : Int) k).toNat) (⟨false, ByteArray.empty, 0⟩ : DSlot)), als, cls, Sls) ?_ (fun w hw => hw.pick (H' := [outer W1 [e0], loopE l_ (recd rc .busy none), box B10 [Vi (Tab.place ((Tab.find tt key).1) (tt.length : Int) k)] 3, box B9 [.slice als ((ls.set ho.toNat (ls.getD ((Tab.place ((Tab.find tt key).1) (tt.length : Int) k).toNat) default)).set ((Tab.place ((Tab.find tt key).1) (tt.length : Int) k).toNat) (⟨false, ByteArray.empty, 0⟩ : DSlot)).length cls] 22, own tSlot Sls als cls ((ls.set ho.toNat (ls.getD ((Tab.place ((Tab.find tt key).1) (tt.length : Int) k).toNat) default)).set ((Tab.place ((Tab.find tt key).1) (tt.length : Int) k).toNat) (⟨false, ByteArray.empty, 0⟩ : DSlot)), box B2 [Vi re] 23, box B1 [rv] 22]) [0, 1, 2, 3, 4, 5, 6] (by decide) rfl)
      first | exact hI.same (by omega) heq | exact hI.move hpb (by omega) heq hu hmv | exact hI.keep (by omega) heq hu hmv
     ·simp only [decide_eq_false_iff_not, Int.not_le] at hc16
      have hmv := hc16
      refine c_skip ?_
      refine q_block_normal (q_block_normal ?_)
      refine q_next (ho, re, (rv), ls, als, cls, Sls) ?_ (fun w hw => hw.pick (H' := [outer W1 [e0], loopE l_ (recd rc .busy none), box B10 [Vi ho] 3, box B9 [.slice als ls.length cls] 22, own tSlot Sls als cls ls, box B2 [Vi re] 23, box B1 [rv] 22]) [0, 1, 2, 3, 4, 5, 6] (by decide) rfl)
      first | exact hI.same (by omega) heq | exact hI.move hpb (by omega) heq hu hmv | exact hI.keep (by omega) heq hu hmv
  ·rintro D ⟨ho, re, rv, ls, als, cls, Sls⟩ hI
   show SQ _ 89 w0 _ _ _ [defE D, box B10 [Vi ho] 3, box B9 [.slice als ls.length cls] 22, own tSlot Sls als cls ls, box B2 [Vi re] 23, box B1 [rv] 22, box B12 [Vi (tt.length : Int)] 3, box B13 [Vi ((Tab.find tt key).1)] 3, box B11 [Vi (tt.length : Int)] 3, base w0]
   refine q_block_normal (q_then ?_)
   refine c_seq (c_region ?_)
   refine o_p (p_load (i := 2) (v := .slice als ls.length cls) rfl rfl sh22 rfl) ?_
   refine o_store (i := 5) (v := .slice als ls.length cls) (cs' := [.slice als ls.length cls]) rfl rfl rfl sz22 rfl rfl rfl ?_
   refine o_store (i := 4) (v := Vi 0) (cs' := [Vi 0]) rfl rfl rfl sz23 rfl rfl rfl ?_
   refine o_nil (q_then (c_ret ?_))
   refine q_marks (i := 0) rfl ?_
   show SQ _ 89 w0 _ _ _ [box B10 [Vi ho] 3, box B9 [.slice als ls.length cls] 22, own tSlot Sls als cls ls, box B2 [Vi 0] 23, box B1 [.slice als ls.length cls] 22, box B12 [Vi (tt.length : Int)] 3, box B13 [Vi ((Tab.find tt key).1)] 3, box B11 [Vi (tt.length : Int)] 3, base w0]
   refine q_marks0 ?_
   have hr0 : (ls : List DSlot) = (Tab.delR tt key) := by
    first | exact (Tab.del_bad (by assumption)).symm | exact (Tab.del_ok hke (hI.done (by omega))).symm | exact (Tab.del_ok hke hI.2).symm | exact hI.1.trans hke.symm | exact hke.symm | rfl
   have hr1 : (0 : Int) = (Tab.keyErr tt key) := by
    first | exact (Tab.del_bad (by assumption)).symm | exact (Tab.del_ok hke (hI.done (by omega))).symm | exact (Tab.del_ok hke hI.2).symm | exact hI.1.trans hke.symm | exact hke.symm | rfl
   refine q_endM (p := (als, cls)) Sls (rt2 rfl (r_cell1 (i := 4) rfl rfl sh22) (r_cell1 (i := 3) rfl rfl sh23)) (i := 8) rfl ?_ ?_ ?_
   ·exact (by have hcc := congr (congrArg (fun (y0 : List DSlot) (y1 : Int) => (.tuple #[.slice als y0.length cls, .int .i64 y1] : Value)) hr0) hr1; exact hcc)
   ·exact fun w hw => hw.above (i := 8) (j := 2) (by decide) rfl rfl
   ·intro w hw; exact Eq.mp (congrArg (fun y => SlO tSlot _ w als cls y) hr0) ((hw.at (i := 2) rfl).here)
  ·rintro D c ⟨ho, re, rv, ls, als, cls, Sls⟩ hx
   rcases hx with ⟨rfl, hI⟩
   ·obtain ⟨hrv, hI⟩ := hI
    subst hrv
    show SC _ _ Try.prog 89 w0 _ _ _ [defE D, box B10 [Vi ho] 3, box B9 [.slice als ls.length cls] 22, own tSlot Sls als cls ls, box B2 [Vi re] 23, box B1 [.slice als ls.length cls] 22, box B12 [Vi (tt.length : Int)] 3, box B13 [Vi ((Tab.find tt key).1)] 3, box B11 [Vi (tt.length : Int)] 3, base w0]
    refine c_ret ?_
    refine q_block_ret (q_then_ret ?_)
    refine q_marks (i := 0) rfl ?_
    show SQ _ 89 w0 _ _ _ [box B10 [Vi ho] 3, box B9 [.slice als ls.length cls] 22, own tSlot Sls als cls ls, box B2 [Vi re] 23, box B1 [.slice als ls.length cls] 22, box B12 [Vi (tt.length : Int)] 3, box B13 [Vi ((Tab.find tt key).1)] 3, box B11 [Vi (tt.length : Int)] 3, base w0]
    refine q_marks0 ?_
    have hr0 : (ls : List DSlot) = (Tab.delR tt key) := by
     first | exact (Tab.del_bad (by assumption)).symm | exact (Tab.del_ok hke (hI.done (by omega))).symm | exact (Tab.del_ok hke hI.2).symm | exact hI.1.trans hke.symm | exact hke.symm | rfl
    have hr1 : (re : Int) = (Tab.keyErr tt key) := by
     first | exact (Tab.del_bad (by assumption)).symm | exact (Tab.del_ok hke (hI.done (by omega))).symm | exact (Tab.del_ok hke hI.2).symm | exact hI.1.trans hke.symm | exact hke.symm | rfl
    refine q_endM (p := (als, cls)) Sls (rt2 rfl (r_cell1 (i := 4) rfl rfl sh22) (r_cell1 (i := 3) rfl rfl sh23)) (i := 8) rfl ?_ ?_ ?_
    ·exact (by have hcc := congr (congrArg (fun (y0 : List DSlot) (y1 : Int) => (.tuple #[.slice als y0.length cls, .int .i64 y1] : Value)) hr0) hr1; exact hcc)
    ·exact fun w hw => hw.above (i := 8) (j := 2) (by decide) rfl rfl
    ·intro w hw; exact Eq.mp (congrArg (fun y => SlO tSlot _ w als cls y) hr0) ((hw.at (i := 2) rfl).here)
end Go.Proofs.Ythecfjipaepcgaa
