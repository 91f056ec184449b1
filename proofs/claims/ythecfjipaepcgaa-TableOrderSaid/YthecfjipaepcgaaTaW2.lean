/- The walks, printed by a program from the translation and a specification. -/
import Derived.Test.YthecfjipaepcgaaTaF
import Derived.Test.YthecfjipaepcgaaTaLaw
import Derived.Test.YthecfjipaepcgaaTaW1
namespace Go.Proofs.Ythecfjipaepcgaa
open Go.Sx Go.RowKit
set_option maxHeartbeats 8000000 in
set_option maxRecDepth 100000 in
theorem treached_ok (tt : List DSlot) (att : Option Addr) (ctt : Nat) (i : Int) (hy1 : 0 ≤ i ∧ i < (tt.length : Int) ∧ tt.length ≤ 64 ∧ (tt.getD i.toNat default).key.size ≤ 40) : Fn0 Try.prog 66 [.slice att tt.length ctt, Vi i] (fun w => Rd tSlot w att ctt tt) (.bool (Tab.reached tt i)) := by
 refine fn0R (nt := 27) (F0 := [(0, .slice att tt.length ctt), (1, Vi i)]) Try.func66 rfl Try.ntmps66 rfl rfl (fun w0 hpre => ?_)
 have htt := hpre
 have hlhtt := htt.2.1
 have hhb := Tab.home_bd (tt.getD i.toNat default).key (n := (tt.length : Int)) (by omega)
 refine c_seq (c_region ?_)
 refine o_box (v := .slice att tt.length ctt) rfl rfl (fun B1 => ?_)
 refine o_box (v := Vi i) rfl rfl (fun B2 => ?_)
 refine o_alloc ze4 rfl (fun B3 => ?_)
 refine o_nil (q_then (c_seq (c_seq ?_)))
 refine c_cutN (G := Nat × Nat) (fun ⟨B4_10, B4_10_1⟩ => [(2, .pointer (some ⟨B1, 0, none⟩)), (3, .pointer (some ⟨B2, 0, none⟩)), (4, .pointer (some ⟨B3, 0, none⟩)), (16, .func (.func 90) #[] #[.pointer (some ⟨B4_10, 0, none⟩), .pointer (some ⟨B4_10_1, 0, none⟩)])]) (fun ⟨B4_10, B4_10_1⟩ => [box B4_10 [Vi (tt.length : Int)] 3, box B4_10_1 [Vi (Tab.home ((tt.getD i.toNat default).key) (tt.length : Int))] 3, box B3 [.bool false] 4, box B2 [Vi i] 3, box B1 [.slice att tt.length ctt] 22, base w0]) (fun K hK5 => ?_) ?_
 ·refine c_held hmix [box B3 [.bool false] 4, box B2 [Vi i] 3, box B1 [.slice att tt.length ctt] 22, base w0] rfl rfl ?_
  refine h_t0 (i := 0) (ls := #[T1,F0,F0,F0,F0,F0,F0,F0,F0,F0,F0]) rfl (p_load (i := 2) (v := .slice att tt.length ctt) rfl rfl sh22 rfl) ?_
  refine h_t0 (i := 1) (ls := #[T1,T1,F0,F0,F0,F0,F0,F0,F0,F0,F0]) rfl (p_len_slice rfl rfl Try.underlying22) ?_
  refine h_t0 (i := 2) (ls := #[T1,T1,T1,F0,F0,F0,F0,F0,F0,F0,F0]) rfl (p_load (i := 2) (v := .slice att tt.length ctt) rfl rfl sh22 rfl) ?_
  refine h_t0 (i := 3) (ls := #[T1,T1,T1,T1,F0,F0,F0,F0,F0,F0,F0]) rfl (p_load (i := 1) (v := Vi i) rfl rfl sh3 rfl) ?_
  refine h_t0 (i := 4) (ls := #[T1,T1,T1,T1,T1,F0,F0,F0,F0,F0,F0]) rfl (p_indexAddr (L := tt) (T := tSlot) (i := i) rfl rfl (rd_base (i := 3) rfl htt) Try.underlying22 sz33 (by omega) (by omega)) ?_
  refine h_t0 (i := 5) (ls := #[T1,T1,T1,T1,T1,T1,F0,F0,F0,F0,F0]) rfl (p_fieldAddrE rfl fo33_1) ?_
  refine h_t0 (i := 6) (ls := #[T1,T1,T1,T1,T1,T1,T1,F0,F0,F0,F0]) rfl (p_loadF (i := i.toNat) (j := 1) (T := tSlot) (L := tt) (v := .string ((tt.getD i.toNat default).key)) rfl (rd_base (i := 3) rfl htt) (by first | assumption | omega) sh9 (congrArg (fun z => (tSlot.enc z)[1]?) (getd_at (by first | assumption | omega) default))) ?_
  refine h_t0 (i := 7) (ls := #[T1,T1,T1,T1,T1,T1,T1,T1,F0,F0,F0]) rfl (p_load (i := 2) (v := .slice att tt.length ctt) rfl rfl sh22 rfl) ?_
  refine h_t0 (i := 8) (ls := #[T1,T1,T1,T1,T1,T1,T1,T1,T1,F0,F0]) rfl (p_len_slice rfl rfl Try.underlying22) ?_
  refine h_one (i := 9) (ls := #[T1,T1,T1,T1,T1,T1,T1,T1,T1,T1,F0]) (by kernel_rfl) rfl rfl ?_
  refine o_call0 (v := Vi (Tab.home ((tt.getD i.toNat default).key) (tt.length : Int))) rfl (thome_ok ((tt.getD i.toNat default).key) (tt.length : Int) (by first | assumption | omega | exact hy1.2.2.2 | exact hy1.2.2)) hf60 (fun _ _ => trivial) rfl ?_
  refine o_nil ?_
  refine h_next (dp (lr)) ?_
  refine h_one (i := 10) (ls := #[T1,T1,T1,T1,T1,T1,T1,T1,T1,T1,T1]) (by kernel_rfl) rfl rfl ?_
  refine o_callX (pre := []) (R := [box B3 [.bool false] 4, box B2 [Vi i] 3, box B1 [.slice att tt.length ctt] 22, base w0]) rfl (tround_ok (tt.length : Int) (Tab.home ((tt.getD i.toNat default).key) (tt.length : Int))) hf59 rfl (fun _ _ => trivial) rfl ?_
  rintro ⟨B4_10, B4_10_1⟩
  refine o_asH (H' := [box B4_10 [Vi (tt.length : Int)] 3, box B4_10_1 [Vi (Tab.home ((tt.getD i.toNat default).key) (tt.length : Int))] 3, box B3 [.bool false] 4, box B2 [Vi i] 3, box B1 [.slice att tt.length ctt] 22, base w0]) rfl ?_
  refine o_nil ?_
  refine h_next (dp (lz (lz (lj (lj (lj (lj (ln)))))))) ?_
  refine h_done (by kernel_rfl) ?_
  refine q_kontN hK5 (B4_10, B4_10_1) (sr (sr (sr (sr (Sub.nil _))))) (pk [0, 1, 2, 3, 4, 5])
 rintro ⟨B4_10, B4_10_1⟩
 show SQ _ 27 w0 _ _ [(2, .pointer (some ⟨B1, 0, none⟩)), (3, .pointer (some ⟨B2, 0, none⟩)), (4, .pointer (some ⟨B3, 0, none⟩)), (16, .func (.func 90) #[] #[.pointer (some ⟨B4_10, 0, none⟩), .pointer (some ⟨B4_10_1, 0, none⟩)])] [box B4_10 [Vi (tt.length : Int)] 3, box B4_10_1 [Vi (Tab.home ((tt.getD i.toNat default).key) (tt.length : Int))] 3, box B3 [.bool false] 4, box B2 [Vi i] 3, box B1 [.slice att tt.length ctt] 22, base w0]
 refine q_then (c_block ?_)
 refine c_rangeFunc (f := 90) (caps := [.pointer (some ⟨B4_10, 0, none⟩), .pointer (some ⟨B4_10_1, 0, none⟩)]) (Pr := (fun e w => ((box B4_10 [Vi (tt.length : Int)] 3).A w ∧ (outer w [e]).S B4_10) ∧ ((box B4_10_1 [Vi (Tab.home ((tt.getD i.toNat default).key) (tt.length : Int))] 3).A w ∧ (outer w [e]).S B4_10_1))) (X := Unit) (encs := (fun x k => [Vi (Tab.place (Tab.home ((tt.getD i.toNat default).key) (tt.length : Int)) (tt.length : Int) k)])) (E := (fun x k => [])) (N := (tt.length : Int).toNat) rfl hf90 (round1_ok (tt.length : Int) B4_10 (Tab.home ((tt.getD i.toNat default).key) (tt.length : Int)) B4_10_1 (by omega)) (fun _ _ => rfl) (by decide) (St := Bool)
  (fun rb => [box B3 [.bool rb] 4])
  (fun k rb => Tab.RI tt i k)
  (fun c rb => (c = .ret ∧ (rb = Tab.reached tt i)))
  [box B4_10 [Vi (tt.length : Int)] 3, box B4_10_1 [Vi (Tab.home ((tt.getD i.toNat default).key) (tt.length : Int))] 3, box B2 [Vi i] 3, box B1 [.slice att tt.length ctt] 22, base w0]
  false ?_ ?_ ?_ ?_ ?_ ?_
 ·exact Tab.RI.start tt i
 ·exact fun w hw => hw.pick (H' := [box B3 [.bool false] 4, box B4_10 [Vi (tt.length : Int)] 3, box B4_10_1 [Vi (Tab.home ((tt.getD i.toNat default).key) (tt.length : Int))] 3, box B2 [Vi i] 3, box B1 [.slice att tt.length ctt] 22, base w0]) [2, 0, 1, 3, 4, 5] (by decide) rfl
 ·intro D e0 W1 hW1
  exact ⟨boxX (i := 2) (js := [0]) rfl (by decide) rfl W1 hW1, boxX (i := 3) (js := [0]) rfl (by decide) rfl W1 hW1⟩
 ·rintro l_ rc D e0 W1 hW1 x_ k rb hk hI
  have hpb := Tab.place_bd (h := Tab.home (tt.getD i.toNat default).key (tt.length : Int)) (n := (tt.length : Int)) (by omega) (by omega) k
  have hor0_1 : SlR tSlot (outer W1 [e0]).S W1 att ctt tt := (rdX (i := 6) (js := [0]) rfl (by decide) rfl (fun _ hA => slR_base htt hA)) W1 hW1
  have hlhor0_1 := hor0_1.2.1
  have hobr0_B1 := boxX (i := 5) (B := B1) (cs := [.slice att tt.length ctt]) (U := 22) (js := [0]) (pre := [e0]) rfl (by decide) rfl W1 hW1
  have hobr0_B2 := boxX (i := 4) (B := B2) (cs := [Vi i]) (U := 3) (js := [0]) (pre := [e0]) rfl (by decide) rfl W1 hW1
  refine c_region ?_
  refine o_as rfl rfl ?_
  refine o_nil ?_
  refine q_begin (i := 1) rfl ?_
  refine c_block (c_seq (c_seq (c_region ?_)))
  refine o_mv rfl rfl ?_
  refine o_p (p_loadR (v := Vi i) rfl (rbox_outer (i := 0) rfl hobr0_B2) sh3 rfl) ?_
  refine o_p (p_eq rfl rfl) ?_
  refine o_nil (q_then ?_)
  refine c_cond rfl (fun hc6 => ?_) (fun hc6 => ?_)
  ·simp only [beq_iff_eq] at hc6
   refine c_seq (c_region ?_)
   refine o_store (i := 2) (v := .bool true) (cs' := [.bool true]) rfl rfl rfl sz4 rfl rfl rfl ?_
   refine o_nil (q_then (c_ret ?_))
   refine q_then_ret (q_block_ret ?_)
   refine q_leave true ?_ (fun w hw => hw.pick (H' := [outer W1 [e0], loopE l_ (recd rc .busy none), box B3 [.bool true] 4]) [0, 1, 2] (by decide) rfl)
   refine ⟨rfl, ?_⟩
   first | exact hI.yes (by omega) (by assumption) | exact hI.no (by omega) (by assumption) hu
  ·simp only [beq_eq_false_iff_ne, ne_eq] at hc6
   refine c_skip (q_then (c_seq (c_region ?_)))
   refine o_p (p_loadR (v := .slice att tt.length ctt) rfl (rbox_outer (i := 0) rfl hobr0_B1) sh22 rfl) ?_
   refine o_mv rfl rfl ?_
   refine o_p (p_indexAddr (L := tt) (T := tSlot) (i := (Tab.place (Tab.home ((tt.getD i.toNat default).key) (tt.length : Int)) (tt.length : Int) k)) rfl rfl (rd_outer (i := 0) rfl hor0_1) Try.underlying22 sz33 (by omega) (by omega)) ?_
   refine o_p (p_fieldAddrE rfl fo33_0) ?_
   refine o_p (p_loadF (i := (Tab.place (Tab.home ((tt.getD i.toNat default).key) (tt.length : Int)) (tt.length : Int) k).toNat) (j := 0) (T := tSlot) (L := tt) (v := .bool ((tt.getD ((Tab.place (Tab.home ((tt.getD i.toNat default).key) (tt.length : Int)) (tt.length : Int) k).toNat) default).used)) rfl (rd_outer (i := 0) rfl hor0_1) (by first | assumption | omega) sh4 (congrArg (fun z => (tSlot.enc z)[0]?) (getd_at (by first | assumption | omega) default))) ?_
   refine o_p (p_not (b := (tt.getD ((Tab.place (Tab.home ((tt.getD i.toNat default).key) (tt.length : Int)) (tt.length : Int) k).toNat) default).used) rfl) ?_
   refine o_nil (q_then ?_)
   refine c_cond rfl (fun hc7 => ?_) (fun hc7 => ?_)
   ·simp only [Bool.not_eq_true'] at hc7
    have hu := hc7
    refine c_seq (c_region ?_)
    refine o_store (i := 2) (v := .bool false) (cs' := [.bool false]) rfl rfl rfl sz4 rfl rfl rfl ?_
    refine o_nil (q_then (c_ret ?_))
    refine q_block_ret ?_
    refine q_leave false ?_ (fun w hw => hw.pick (H' := [outer W1 [e0], loopE l_ (recd rc .busy none), box B3 [.bool false] 4]) [0, 1, 2] (by decide) rfl)
    refine ⟨rfl, ?_⟩
    first | exact hI.yes (by omega) (by assumption) | exact hI.no (by omega) (by assumption) hu
   ·simp only [Bool.not_eq_false'] at hc7
    have hu := hc7
    refine c_skip ?_
    refine q_block_normal ?_
    refine q_next rb ?_ (fun w hw => hw.pick (H' := [outer W1 [e0], loopE l_ (recd rc .busy none), box B3 [.bool rb] 4]) [0, 1, 2] (by decide) rfl)
    exact hI.next (by omega) (by assumption) hu
 ·rintro D rb hI
  show SQ _ 27 w0 _ _ _ [defE D, box B3 [.bool rb] 4, box B4_10 [Vi (tt.length : Int)] 3, box B4_10_1 [Vi (Tab.home ((tt.getD i.toNat default).key) (tt.length : Int))] 3, box B2 [Vi i] 3, box B1 [.slice att tt.length ctt] 22, base w0]
  refine q_block_normal (q_then ?_)
  refine c_seq (c_region ?_)
  refine o_store (i := 1) (v := .bool false) (cs' := [.bool false]) rfl rfl rfl sz4 rfl rfl rfl ?_
  refine o_nil (q_then (c_ret ?_))
  refine q_marks (i := 0) rfl ?_
  show SQ _ 27 w0 _ _ _ [box B3 [.bool false] 4, box B4_10 [Vi (tt.length : Int)] 3, box B4_10_1 [Vi (Tab.home ((tt.getD i.toNat default).key) (tt.length : Int))] 3, box B2 [Vi i] 3, box B1 [.slice att tt.length ctt] 22, base w0]
  refine q_marks0 ?_
  have hr0 : (false : Bool) = (Tab.reached tt i) := by
   first | exact hI | exact hI.done (by omega)
  refine q_end0 (v := .bool false) (rt1 rfl (r_cell1 (i := 0) rfl rfl sh4)) (i := 5) rfl ?_
  exact (by have hcc := congrArg (fun (y0 : Bool) => (.bool y0 : Value)) hr0; exact hcc)
 ·rintro D c rb hx
  rcases hx with ⟨rfl, hI⟩
  ·show SC _ _ Try.prog 27 w0 _ _ _ [defE D, box B3 [.bool rb] 4, box B4_10 [Vi (tt.length : Int)] 3, box B4_10_1 [Vi (Tab.home ((tt.getD i.toNat default).key) (tt.length : Int))] 3, box B2 [Vi i] 3, box B1 [.slice att tt.length ctt] 22, base w0]
   refine c_ret ?_
   refine q_block_ret (q_then_ret ?_)
   refine q_marks (i := 0) rfl ?_
   show SQ _ 27 w0 _ _ _ [box B3 [.bool rb] 4, box B4_10 [Vi (tt.length : Int)] 3, box B4_10_1 [Vi (Tab.home ((tt.getD i.toNat default).key) (tt.length : Int))] 3, box B2 [Vi i] 3, box B1 [.slice att tt.length ctt] 22, base w0]
   refine q_marks0 ?_
   have hr0 : (rb : Bool) = (Tab.reached tt i) := by
    first | exact hI | exact hI.done (by omega)
   refine q_end0 (v := .bool rb) (rt1 rfl (r_cell1 (i := 0) rfl rfl sh4)) (i := 5) rfl ?_
   exact (by have hcc := congrArg (fun (y0 : Bool) => (.bool y0 : Value)) hr0; exact hcc)

set_option maxHeartbeats 8000000 in
set_option maxRecDepth 100000 in
theorem tfind_ok (tt : List DSlot) (att : Option Addr) (ctt : Nat) (key : ByteArray) (hy1 : 1 ≤ tt.length ∧ tt.length ≤ 64 ∧ key.size ≤ 40) : Fn0 Try.prog 55 [.slice att tt.length ctt, .string key] (fun w => Rd tSlot w att ctt tt) (.tuple #[Vi ((Tab.find tt key).1), Vi ((Tab.find tt key).2)]) := by
 refine fn0R (nt := 35) (F0 := [(0, .slice att tt.length ctt), (1, .string key)]) Try.func55 rfl Try.ntmps55 rfl rfl (fun w0 hpre => ?_)
 have htt := hpre
 have hlhtt := htt.2.1
 have hhb := Tab.home_bd key (n := (tt.length : Int)) (by omega)
 refine c_seq (c_region ?_)
 refine o_box (v := .slice att tt.length ctt) rfl rfl (fun B1 => ?_)
 refine o_box (v := .string key) rfl rfl (fun B2 => ?_)
 refine o_alloc ze3 rfl (fun B3 => ?_)
 refine o_alloc ze3 rfl (fun B4 => ?_)
 refine o_nil (q_then (c_seq (c_region ?_)))
 refine o_alloc ze3 rfl (fun B5 => ?_)
 refine o_store (i := 0) (v := Vi 0) (cs' := [Vi 0]) rfl rfl rfl sz3 rfl rfl rfl ?_
 refine o_nil (q_then (c_seq (c_seq ?_)))
 refine c_cutN (G := Nat × Nat) (fun ⟨B6_6, B6_6_1⟩ => [(2, .pointer (some ⟨B1, 0, none⟩)), (3, .pointer (some ⟨B2, 0, none⟩)), (4, .pointer (some ⟨B3, 0, none⟩)), (5, .pointer (some ⟨B4, 0, none⟩)), (6, .pointer (some ⟨B5, 0, none⟩)), (14, .func (.func 90) #[] #[.pointer (some ⟨B6_6, 0, none⟩), .pointer (some ⟨B6_6_1, 0, none⟩)])]) (fun ⟨B6_6, B6_6_1⟩ => [box B6_6 [Vi (tt.length : Int)] 3, box B6_6_1 [Vi (Tab.home key (tt.length : Int))] 3, box B5 [Vi 0] 3, box B4 [Vi 0] 3, box B3 [Vi 0] 3, box B2 [.string key] 9, box B1 [.slice att tt.length ctt] 22, base w0]) (fun K hK7 => ?_) ?_
 ·refine c_held hmix [box B5 [Vi 0] 3, box B4 [Vi 0] 3, box B3 [Vi 0] 3, box B2 [.string key] 9, box B1 [.slice att tt.length ctt] 22, base w0] rfl rfl ?_
  refine h_t0 (i := 0) (ls := #[T1,F0,F0,F0,F0,F0,F0]) rfl (p_load (i := 4) (v := .slice att tt.length ctt) rfl rfl sh22 rfl) ?_
  refine h_t0 (i := 1) (ls := #[T1,T1,F0,F0,F0,F0,F0]) rfl (p_len_slice rfl rfl Try.underlying22) ?_
  refine h_t0 (i := 2) (ls := #[T1,T1,T1,F0,F0,F0,F0]) rfl (p_load (i := 3) (v := .string key) rfl rfl sh9 rfl) ?_
  refine h_t0 (i := 3) (ls := #[T1,T1,T1,T1,F0,F0,F0]) rfl (p_load (i := 4) (v := .slice att tt.length ctt) rfl rfl sh22 rfl) ?_
  refine h_t0 (i := 4) (ls := #[T1,T1,T1,T1,T1,F0,F0]) rfl (p_len_slice rfl rfl Try.underlying22) ?_
  refine h_one (i := 5) (ls := #[T1,T1,T1,T1,T1,T1,F0]) (by kernel_rfl) rfl rfl ?_
  refine o_call0 (v := Vi (Tab.home key (tt.length : Int))) rfl (thome_ok key (tt.length : Int) (by first | assumption | omega | exact hy1.2.2.2 | exact hy1.2.2)) hf60 (fun _ _ => trivial) rfl ?_
  refine o_nil ?_
  refine h_next (dp (lr)) ?_
  refine h_one (i := 6) (ls := #[T1,T1,T1,T1,T1,T1,T1]) (by kernel_rfl) rfl rfl ?_
  refine o_callX (pre := []) (R := [box B5 [Vi 0] 3, box B4 [Vi 0] 3, box B3 [Vi 0] 3, box B2 [.string key] 9, box B1 [.slice att tt.length ctt] 22, base w0]) rfl (tround_ok (tt.length : Int) (Tab.home key (tt.length : Int))) hf59 rfl (fun _ _ => trivial) rfl ?_
  rintro ⟨B6_6, B6_6_1⟩
  refine o_asH (H' := [box B6_6 [Vi (tt.length : Int)] 3, box B6_6_1 [Vi (Tab.home key (tt.length : Int))] 3, box B5 [Vi 0] 3, box B4 [Vi 0] 3, box B3 [Vi 0] 3, box B2 [.string key] 9, box B1 [.slice att tt.length ctt] 22, base w0]) rfl ?_
  refine o_nil ?_
  refine h_next (dp (lz (lz (lj (lj (lj (lj (lj (lj (ln)))))))))) ?_
  refine h_done (by kernel_rfl) ?_
  refine q_kontN hK7 (B6_6, B6_6_1) (sr (sr (sr (sr (sr (sr (Sub.nil _))))))) (pk [0, 1, 2, 3, 4, 5, 6, 7])
 rintro ⟨B6_6, B6_6_1⟩
 show SQ _ 35 w0 _ _ [(2, .pointer (some ⟨B1, 0, none⟩)), (3, .pointer (some ⟨B2, 0, none⟩)), (4, .pointer (some ⟨B3, 0, none⟩)), (5, .pointer (some ⟨B4, 0, none⟩)), (6, .pointer (some ⟨B5, 0, none⟩)), (14, .func (.func 90) #[] #[.pointer (some ⟨B6_6, 0, none⟩), .pointer (some ⟨B6_6_1, 0, none⟩)])] [box B6_6 [Vi (tt.length : Int)] 3, box B6_6_1 [Vi (Tab.home key (tt.length : Int))] 3, box B5 [Vi 0] 3, box B4 [Vi 0] 3, box B3 [Vi 0] 3, box B2 [.string key] 9, box B1 [.slice att tt.length ctt] 22, base w0]
 refine q_then (c_block ?_)
 refine c_rangeFunc (f := 90) (caps := [.pointer (some ⟨B6_6, 0, none⟩), .pointer (some ⟨B6_6_1, 0, none⟩)]) (Pr := (fun e w => ((box B6_6 [Vi (tt.length : Int)] 3).A w ∧ (outer w [e]).S B6_6) ∧ ((box B6_6_1 [Vi (Tab.home key (tt.length : Int))] 3).A w ∧ (outer w [e]).S B6_6_1))) (X := Unit) (encs := (fun x k => [Vi (Tab.place (Tab.home key (tt.length : Int)) (tt.length : Int) k)])) (E := (fun x k => [])) (N := (tt.length : Int).toNat) rfl hf90 (round1_ok (tt.length : Int) B6_6 (Tab.home key (tt.length : Int)) B6_6_1 (by omega)) (fun _ _ => rfl) (by decide) (St := Int × Int × Int)
  (fun ⟨ra, rb, lk⟩ => [box B5 [Vi lk] 3, box B4 [Vi rb] 3, box B3 [Vi ra] 3])
  (fun k ⟨ra, rb, lk⟩ => Tab.FI tt key k ∧ lk = (k : Int))
  (fun c ⟨ra, rb, lk⟩ => (c = .ret ∧ ((ra, rb) = Tab.find tt key)))
  [box B6_6 [Vi (tt.length : Int)] 3, box B6_6_1 [Vi (Tab.home key (tt.length : Int))] 3, box B2 [.string key] 9, box B1 [.slice att tt.length ctt] 22, base w0]
  (0, 0, 0) ?_ ?_ ?_ ?_ ?_ ?_
 ·exact ⟨Tab.FI.start tt key, rfl⟩
 ·exact fun w hw => hw.pick (H' := [box B5 [Vi 0] 3, box B4 [Vi 0] 3, box B3 [Vi 0] 3, box B6_6 [Vi (tt.length : Int)] 3, box B6_6_1 [Vi (Tab.home key (tt.length : Int))] 3, box B2 [.string key] 9, box B1 [.slice att tt.length ctt] 22, base w0]) [2, 3, 4, 0, 1, 5, 6, 7] (by decide) rfl
 ·intro D e0 W1 hW1
  exact ⟨boxX (i := 2) (js := [0]) rfl (by decide) rfl W1 hW1, boxX (i := 3) (js := [0]) rfl (by decide) rfl W1 hW1⟩
 ·rintro l_ rc D e0 W1 hW1 x_ k ⟨ra, rb, lk⟩ hk hI
  have hpb := Tab.place_bd (h := Tab.home key (tt.length : Int)) (n := (tt.length : Int)) (by omega) (by omega) k
  obtain ⟨hI1, hI2⟩ := id hI
  have hor0_1 : SlR tSlot (outer W1 [e0]).S W1 att ctt tt := (rdX (i := 6) (js := [0]) rfl (by decide) rfl (fun _ hA => slR_base htt hA)) W1 hW1
  have hlhor0_1 := hor0_1.2.1
  have hobr0_B1 := boxX (i := 5) (B := B1) (cs := [.slice att tt.length ctt]) (U := 22) (js := [0]) (pre := [e0]) rfl (by decide) rfl W1 hW1
  have hobr0_B2 := boxX (i := 4) (B := B2) (cs := [.string key]) (U := 9) (js := [0]) (pre := [e0]) rfl (by decide) rfl W1 hW1
  refine c_region ?_
  refine o_as rfl rfl ?_
  refine o_nil ?_
  refine q_begin (i := 1) rfl ?_
  refine c_block (c_seq (c_region ?_))
  refine o_p (p_load (i := 2) (v := Vi lk) rfl rfl sh3 rfl) ?_
  refine o_p (p_addb rfl rfl (by omega)) ?_
  refine o_store (i := 2) (v := Vi (lk + 1)) (cs' := [Vi (lk + 1)]) rfl rfl rfl sz3 rfl rfl rfl ?_
  refine o_nil (q_then (c_block (c_seq (c_region ?_))))
  refine o_p (p_loadR (v := .slice att tt.length ctt) rfl (rbox_outer (i := 0) rfl hobr0_B1) sh22 rfl) ?_
  refine o_mv rfl rfl ?_
  refine o_p (p_indexAddr (L := tt) (T := tSlot) (i := (Tab.place (Tab.home key (tt.length : Int)) (tt.length : Int) k)) rfl rfl (rd_outer (i := 0) rfl hor0_1) Try.underlying22 sz33 (by omega) (by omega)) ?_
  refine o_p (p_fieldAddrE rfl fo33_0) ?_
  refine o_p (p_loadF (i := (Tab.place (Tab.home key (tt.length : Int)) (tt.length : Int) k).toNat) (j := 0) (T := tSlot) (L := tt) (v := .bool ((tt.getD ((Tab.place (Tab.home key (tt.length : Int)) (tt.length : Int) k).toNat) default).used)) rfl (rd_outer (i := 0) rfl hor0_1) (by first | assumption | omega) sh4 (congrArg (fun z => (tSlot.enc z)[0]?) (getd_at (by first | assumption | omega) default))) ?_
  refine o_p (p_not (b := (tt.getD ((Tab.place (Tab.home key (tt.length : Int)) (tt.length : Int) k).toNat) default).used) rfl) ?_
  refine o_as rfl rfl ?_
  refine o_nil (q_then ?_)
  refine c_cond rfl (fun hc8 => ?_) (fun hc8 => ?_)
  ·simp only [Bool.not_eq_true'] at hc8
   have hu := hc8
   refine c_seq (c_region ?_)
   refine o_store (i := 4) (v := Vi (-1)) (cs' := [Vi (-1)]) rfl rfl rfl sz3 rfl rfl rfl ?_
   refine o_store (i := 3) (v := Vi 0) (cs' := [Vi 0]) rfl rfl rfl sz3 rfl rfl rfl ?_
   refine o_nil (q_then (c_ret ?_))
   refine q_block_ret (q_block_ret ?_)
   refine q_leave ((-1), 0, (lk + 1)) ?_ (fun w hw => hw.pick (H' := [outer W1 [e0], loopE l_ (recd rc .busy none), box B5 [Vi (lk + 1)] 3, box B4 [Vi 0] 3, box B3 [Vi (-1)] 3]) [0, 1, 2, 3, 4] (by decide) rfl)
   refine ⟨rfl, ?_⟩
   first | exact hI1.none_ (by omega) hu | (rw [hI2]; exact hI1.here (by omega) hu hke)
  ·simp only [Bool.not_eq_false'] at hc8
   have hu := hc8
   refine c_seq ?_
   refine c_drawR hmix (by decide) (fun _ _ h => h) (by kernel_rfl) ?_
   refine w_p (p_loadR (v := .slice att tt.length ctt) rfl (rbox_outer (i := 0) rfl hobr0_B1) sh22 rfl) ?_
   refine w_mv rfl rfl ?_
   refine w_p (p_indexAddr (L := tt) (T := tSlot) (i := (Tab.place (Tab.home key (tt.length : Int)) (tt.length : Int) k)) rfl rfl (rd_outer (i := 0) rfl hor0_1) Try.underlying22 sz33 (by omega) (by omega)) ?_
   refine w_p (p_fieldAddrE rfl fo33_1) ?_
   refine w_p (p_loadF (i := (Tab.place (Tab.home key (tt.length : Int)) (tt.length : Int) k).toNat) (j := 1) (T := tSlot) (L := tt) (v := .string ((tt.getD ((Tab.place (Tab.home key (tt.length : Int)) (tt.length : Int) k).toNat) default).key)) rfl (rd_outer (i := 0) rfl hor0_1) (by first | assumption | omega) sh9 (congrArg (fun z => (tSlot.enc z)[1]?) (getd_at (by first | assumption | omega) default))) ?_
   refine w_p (p_loadR (v := .string key) rfl (rbox_outer (i := 0) rfl hobr0_B2) sh9 rfl) ?_
   refine w_p (p_eqStr (s := (tt.getD ((Tab.place (Tab.home key (tt.length : Int)) (tt.length : Int) k).toNat) default).key) (t := key) rfl rfl) ?_
   refine w_p (p_assign rfl) ?_
   refine w_nil (q_then ?_)
   refine c_cond rfl (fun hc9 => ?_) (fun hc9 => ?_)
   ·simp only [decide_eq_true_eq] at hc9
    have hke := hc9
    refine c_seq ?_
    refine c_heldR hmix (by decide) (fun _ _ h => h) [outer W1 [e0], loopE l_ (recd rc .busy none), box B5 [Vi (lk + 1)] 3] rfl rfl ?_
    refine h_tk (i := 0) (ls := #[T1,F0,F0,F0]) rfl (p_move rfl) (dp (lj (lj (lj (lz (lz (ln))))))) ?_
    refine h_tk (i := 1) (ls := #[T1,T1,F0,F0]) rfl (p_load (i := 2) (v := Vi (lk + 1)) rfl rfl sh3 rfl) (dp (lj (lj (lj (lz (lz (ln))))))) ?_
    refine h_one (i := 2) (ls := #[T1,T1,T1,F0]) (by kernel_rfl) rfl rfl ?_
    refine o_store (i := 4) (v := Vi (Tab.place (Tab.home key (tt.length : Int)) (tt.length : Int) k)) (cs' := [Vi (Tab.place (Tab.home key (tt.length : Int)) (tt.length : Int) k)]) rfl rfl rfl sz3 rfl rfl rfl ?_
    refine o_nil ?_
    refine h_next (dp (lj (lj (lj (lz (lz (ln))))))) ?_
    refine h_one (i := 3) (ls := #[T1,T1,T1,T1]) (by kernel_rfl) rfl rfl ?_
    refine o_store (i := 3) (v := Vi (lk + 1)) (cs' := [Vi (lk + 1)]) rfl rfl rfl sz3 rfl rfl rfl ?_
    refine o_nil ?_
    refine h_next (dp (lj (lj (lj (lz (lz (ln))))))) ?_
    refine h_done (by kernel_rfl) ?_
    refine q_then (c_ret ?_)
    refine q_block_ret (q_block_ret ?_)
    refine q_leave ((Tab.place (Tab.home key (tt.length : Int)) (tt.length : Int) k), (lk + 1), (lk + 1)) ?_ (fun w hw => hw.pick (H' := [outer W1 [e0], loopE l_ (recd rc .busy none), box B5 [Vi (lk + 1)] 3, box B4 [Vi (lk + 1)] 3, box B3 [Vi (Tab.place (Tab.home key (tt.length : Int)) (tt.length : Int) k)] 3]) [0, 1, 2, 3, 4] (by decide) rfl)
    refine ⟨rfl, ?_⟩
    first | exact hI1.none_ (by omega) hu | (rw [hI2]; exact hI1.here (by omega) hu hke)
   ·simp only [decide_eq_false_iff_not] at hc9
    have hke := hc9
    refine c_skip ?_
    refine q_block_normal (q_block_normal ?_)
    refine q_next (ra, rb, (lk + 1)) ?_ (fun w hw => hw.pick (H' := [outer W1 [e0], loopE l_ (recd rc .busy none), box B5 [Vi (lk + 1)] 3, box B4 [Vi rb] 3, box B3 [Vi ra] 3]) [0, 1, 2, 3, 4] (by decide) rfl)
    exact ⟨hI1.next (by omega) hu hke, by omega⟩
 ·rintro D ⟨ra, rb, lk⟩ hI
  show SQ _ 35 w0 _ _ _ [defE D, box B5 [Vi lk] 3, box B4 [Vi rb] 3, box B3 [Vi ra] 3, box B6_6 [Vi (tt.length : Int)] 3, box B6_6_1 [Vi (Tab.home key (tt.length : Int))] 3, box B2 [.string key] 9, box B1 [.slice att tt.length ctt] 22, base w0]
  refine q_block_normal (q_then ?_)
  refine c_seq (c_region ?_)
  refine o_store (i := 3) (v := Vi (-1)) (cs' := [Vi (-1)]) rfl rfl rfl sz3 rfl rfl rfl ?_
  refine o_store (i := 2) (v := Vi 0) (cs' := [Vi 0]) rfl rfl rfl sz3 rfl rfl rfl ?_
  refine o_nil (q_then (c_ret ?_))
  refine q_marks (i := 0) rfl ?_
  show SQ _ 35 w0 _ _ _ [box B5 [Vi lk] 3, box B4 [Vi 0] 3, box B3 [Vi (-1)] 3, box B6_6 [Vi (tt.length : Int)] 3, box B6_6_1 [Vi (Tab.home key (tt.length : Int))] 3, box B2 [.string key] 9, box B1 [.slice att tt.length ctt] 22, base w0]
  refine q_marks0 ?_
  have hr0 : ((-1) : Int) = ((Tab.find tt key).1) := by
   first | exact congrArg Prod.fst hI | exact congrArg Prod.snd hI | exact congrArg Prod.fst (hI.1.done (by omega)) | exact congrArg Prod.snd (hI.1.done (by omega))
  have hr1 : (0 : Int) = ((Tab.find tt key).2) := by
   first | exact congrArg Prod.fst hI | exact congrArg Prod.snd hI | exact congrArg Prod.fst (hI.1.done (by omega)) | exact congrArg Prod.snd (hI.1.done (by omega))
  refine q_end0 (v := .tuple #[Vi (-1), Vi 0]) (rt2 rfl (r_cell1 (i := 2) rfl rfl sh3) (r_cell1 (i := 1) rfl rfl sh3)) (i := 7) rfl ?_
  exact (by have hcc := congr (congrArg (fun (y0 : Int) (y1 : Int) => (.tuple #[.int .i64 y0, .int .i64 y1] : Value)) hr0) hr1; exact hcc)
 ·rintro D c ⟨ra, rb, lk⟩ hx
  rcases hx with ⟨rfl, hI⟩
  ·show SC _ _ Try.prog 35 w0 _ _ _ [defE D, box B5 [Vi lk] 3, box B4 [Vi rb] 3, box B3 [Vi ra] 3, box B6_6 [Vi (tt.length : Int)] 3, box B6_6_1 [Vi (Tab.home key (tt.length : Int))] 3, box B2 [.string key] 9, box B1 [.slice att tt.length ctt] 22, base w0]
   refine c_ret ?_
   refine q_block_ret (q_then_ret ?_)
   refine q_marks (i := 0) rfl ?_
   show SQ _ 35 w0 _ _ _ [box B5 [Vi lk] 3, box B4 [Vi rb] 3, box B3 [Vi ra] 3, box B6_6 [Vi (tt.length : Int)] 3, box B6_6_1 [Vi (Tab.home key (tt.length : Int))] 3, box B2 [.string key] 9, box B1 [.slice att tt.length ctt] 22, base w0]
   refine q_marks0 ?_
   have hr0 : (ra : Int) = ((Tab.find tt key).1) := by
    first | exact congrArg Prod.fst hI | exact congrArg Prod.snd hI | exact congrArg Prod.fst (hI.1.done (by omega)) | exact congrArg Prod.snd (hI.1.done (by omega))
   have hr1 : (rb : Int) = ((Tab.find tt key).2) := by
    first | exact congrArg Prod.fst hI | exact congrArg Prod.snd hI | exact congrArg Prod.fst (hI.1.done (by omega)) | exact congrArg Prod.snd (hI.1.done (by omega))
   refine q_end0 (v := .tuple #[Vi ra, Vi rb]) (rt2 rfl (r_cell1 (i := 2) rfl rfl sh3) (r_cell1 (i := 1) rfl rfl sh3)) (i := 7) rfl ?_
   exact (by have hcc := congr (congrArg (fun (y0 : Int) (y1 : Int) => (.tuple #[.int .i64 y0, .int .i64 y1] : Value)) hr0) hr1; exact hcc)

set_option maxHeartbeats 8000000 in
set_option maxRecDepth 100000 in
theorem tcheck_ok (tt : List DSlot) (att : Option Addr) (ctt : Nat) : Fn0 Try.prog 25 [.slice att tt.length ctt] (fun w => Rd tSlot w att ctt tt) (Vi (Tab.check tt)) := by
 refine fn0 (nt := 63) (F0 := [(0, .slice att tt.length ctt)]) Try.func25 rfl Try.ntmps25 rfl rfl (fun w0 hpre => ?_)
 have htt := hpre
 have hlhtt := htt.2.1
 refine c_seq (c_region ?_)
 refine o_as rfl rfl ?_
 refine o_nil (q_then (c_seq (c_block (c_seq (c_region ?_)))))
 refine o_mv rfl rfl ?_
 refine o_p (p_len_slice rfl rfl Try.underlying22) ?_
 refine o_p (p_eq rfl rfl) ?_
 refine o_as rfl rfl ?_
 refine o_nil (q_then ?_)
 refine c_cond rfl (fun hc1 => ?_) (fun hc1 => ?_)
 ·simp only [beq_iff_eq] at hc1
  refine c_seq (c_region ?_)
  refine o_as rfl rfl ?_
  refine o_nil (q_then (c_ret ?_))
  refine q_block_ret (q_then_ret ?_)
  have hr0 : (1 : Int) = (Tab.check tt) := by
   first | exact Tab.ck1 (by omega) | exact Tab.ck2 (by omega) | exact Tab.ck3 (by omega) (by omega) (hI1.bad (by omega) ho) ho | exact Tab.ck3 (by omega) (by omega) (hI1.twice (by omega) ho hu ((hI2 _).1 (by assumption))) (by decide) | exact Tab.ck4 (by omega) (by omega) hz (hI.bad2 (by omega) hu) | exact Tab.ck4 (by omega) (by omega) hz (hI.done (by omega))
  refine q_end0 (v := Vi 1) (rt1 rfl (r_tmp rfl)) (i := 0) rfl ?_
  exact (by have hcc := congrArg (fun (y0 : Int) => (.int .i64 y0 : Value)) hr0; exact hcc)
 ·simp only [beq_eq_false_iff_ne, ne_eq] at hc1
  refine c_seq (c_region ?_)
  refine o_mv rfl rfl ?_
  refine o_p (p_len_slice rfl rfl Try.underlying22) ?_
  refine o_p (p_gt rfl rfl) ?_
  refine o_as rfl rfl ?_
  refine o_nil (q_then ?_)
  refine c_cond rfl (fun hc2 => ?_) (fun hc2 => ?_)
  ·simp only [decide_eq_true_eq] at hc2
   refine c_seq (c_region ?_)
   refine o_as rfl rfl ?_
   refine o_nil (q_then (c_ret ?_))
   refine q_block_ret (q_then_ret ?_)
   have hr0 : (2 : Int) = (Tab.check tt) := by
    first | exact Tab.ck1 (by omega) | exact Tab.ck2 (by omega) | exact Tab.ck3 (by omega) (by omega) (hI1.bad (by omega) ho) ho | exact Tab.ck3 (by omega) (by omega) (hI1.twice (by omega) ho hu ((hI2 _).1 (by assumption))) (by decide) | exact Tab.ck4 (by omega) (by omega) hz (hI.bad2 (by omega) hu) | exact Tab.ck4 (by omega) (by omega) hz (hI.done (by omega))
   refine q_end0 (v := Vi 2) (rt1 rfl (r_tmp rfl)) (i := 0) rfl ?_
   exact (by have hcc := congrArg (fun (y0 : Int) => (.int .i64 y0 : Value)) hr0; exact hcc)
  ·simp only [decide_eq_false_iff_not, Int.not_lt] at hc2
   refine c_skip ?_
   refine q_block_normal (q_then ?_)
   refine c_seq (c_region ?_)
   refine o_makeMap (ν := Unit) kStr (fun _ => .agg #[]) rfl (fun B3 => ?_)
   refine o_as rfl rfl ?_
   refine o_nil (q_then (c_seq (c_seq (c_region ?_))))
   refine o_mv rfl rfl ?_
   refine o_p (p_len_slice rfl rfl Try.underlying22) ?_
   refine o_mv rfl rfl ?_
   refine o_nil (q_then (c_block ?_))
   refine c_loop (St := Nat × List (ByteArray × Unit))
    (fun ⟨k, m⟩ => [(0, .slice att tt.length ctt), (3, .map (some B3)), (20, .slice att tt.length ctt), (21, Vi (tt.length : Int)), (22, Vi (k : Int))])
    (fun ⟨k, m⟩ => [mapE kStr (fun _ => .agg #[]) B3 m, base w0])
    (fun ⟨k, m⟩ => Tab.CI tt k ∧ Tab.Seen m tt k)
    (fun ⟨k, m⟩ => tt.length - k)
    (0, []) ?_ (sr (sr (sr (sr (sr (Sub.nil _)))))) (fun _ hw => hw) ?_
   ·exact ⟨Tab.CI.start tt, Tab.Seen.start tt⟩
   rintro ⟨k, m⟩ hI K hK4
   obtain ⟨hI1, hI2⟩ := hI
   have hle := hI1.le
   show SC _ _ Try.prog 63 w0 _ _ [(0, .slice att tt.length ctt), (3, .map (some B3)), (20, .slice att tt.length ctt), (21, Vi (tt.length : Int)), (22, Vi (k : Int))] [mapE kStr (fun _ => .agg #[]) B3 m, base w0]
   refine c_seq (c_region ?_)
   refine o_p (p_lt rfl rfl) ?_
   refine o_nil (q_then (c_seq ?_))
   refine c_cond rfl (fun hc5 => ?_) (fun hc5 => ?_)
   ·simp only [decide_eq_true_eq] at hc5
    refine c_skip (q_then (c_seq (c_block (c_seq (c_region ?_)))))
    refine o_p (p_indexAddr (L := tt) (T := tSlot) (i := (k : Int)) rfl rfl (rd_base (i := 1) rfl htt) Try.underlying22 sz33 (by omega) (by omega)) ?_
    refine o_p (p_loadEn (i := k) (T := tSlot) (L := tt) (vs := [.bool ((tt[k]).used), .string ((tt[k]).key), Vi ((tt[k]).value)]) rfl (rd_base (i := 1) rfl htt) (by first | assumption | omega) sh33 rfl) ?_
    refine o_alloc ze33 rfl (fun B6 => ?_)
    refine o_storeN (i := 0) (vs := [.bool ((tt[k]).used), .string ((tt[k]).key), Vi ((tt[k]).value)]) (cs' := [.bool ((tt[k]).used), .string ((tt[k]).key), Vi ((tt[k]).value)]) rfl rfl rfl sz33 rfl rfl rfl rfl ?_
    refine o_nil (q_then (c_seq (c_seq (c_region ?_))))
    refine o_p (p_load_agg (i := 0) (vs := [.bool ((tt[k]).used), .string ((tt[k]).key), Vi ((tt[k]).value)]) rfl rfl sh33 rfl rfl) ?_
    refine o_call0 (v := Vi (Tab.one (tt[k]))) rfl (tone_ok (tt[k])) hf65 (fun _ _ => trivial) rfl ?_
    refine o_as rfl rfl ?_
    refine o_nil (q_then (c_seq (c_region ?_)))
    refine o_mv rfl rfl ?_
    refine o_p (p_ne rfl rfl) ?_
    refine o_nil (q_then ?_)
    refine c_cond rfl (fun hc7 => ?_) (fun hc7 => ?_)
    ·simp only [bne_iff_ne, ne_eq] at hc7
     have ho := hc7
     refine c_seq (c_region ?_)
     refine o_mv rfl rfl ?_
     refine o_as rfl rfl ?_
     refine o_nil (q_then (c_ret ?_))
     refine q_then_ret (q_block_ret (q_then_ret (q_then_ret (q_block_ret (q_then_ret ?_)))))
     have hr0 : ((Tab.one (tt[k])) : Int) = (Tab.check tt) := by
      first | exact Tab.ck1 (by omega) | exact Tab.ck2 (by omega) | exact Tab.ck3 (by omega) (by omega) (hI1.bad (by omega) ho) ho | exact Tab.ck3 (by omega) (by omega) (hI1.twice (by omega) ho hu ((hI2 _).1 (by assumption))) (by decide) | exact Tab.ck4 (by omega) (by omega) hz (hI.bad2 (by omega) hu) | exact Tab.ck4 (by omega) (by omega) hz (hI.done (by omega))
     refine q_end0 (v := Vi (Tab.one (tt[k]))) (rt1 rfl (r_tmp rfl)) (i := 2) rfl ?_
     exact (by have hcc := congrArg (fun (y0 : Int) => (.int .i64 y0 : Value)) hr0; exact hcc)
    ·simp only [bne_eq_false_iff_eq] at hc7
     have ho := hc7
     refine c_skip (q_then (c_seq (c_seq (c_region ?_))))
     refine o_p (p_fieldAddr (j' := 0) rfl fo33_0 rfl) ?_
     refine o_p (p_load (i := 0) (v := .bool ((tt[k]).used)) rfl rfl sh4 rfl) ?_
     refine o_p (p_not (b := (tt[k]).used) rfl) ?_
     refine o_nil (q_then ?_)
     refine c_cond rfl (fun hc8 => ?_) (fun hc8 => ?_)
     ·simp only [Bool.not_eq_true'] at hc8
      have hu := hc8
      refine c_exit ?_
      refine q_then_exit (q_block_exit (q_then ?_))
      refine c_region ?_
      refine o_p (p_addb rfl rfl (by omega)) ?_
      refine o_mv rfl rfl ?_
      refine o_nil ?_
      refine q_round hK4 (k + 1, m) ?_ ?_ ?_ ?_
      ·clear hK4
       first | exact ⟨hI1.skip (by omega) ho hu, hI2.skip (by omega) hu⟩ | exact ⟨hI1.next (by omega) ho hu (hI2.no (by assumption)), hI2.next (by omega) hu _⟩
      ·(try dsimp only); omega
      ·exact sr (sr (sr (sr (sr (Sub.nil _)))))
      ·exact pk [1, 2]
     ·simp only [Bool.not_eq_false'] at hc8
      have hu := hc8
      refine c_skip (q_then (c_seq (c_seq (c_region ?_))))
      refine o_mv rfl rfl ?_
      refine o_p (p_fieldAddr (j' := 1) rfl fo33_1 rfl) ?_
      refine o_p (p_load (i := 0) (v := .string ((tt[k]).key)) rfl rfl sh9 rfl) ?_
      refine o_p (p_lookup2 (i := 1) (K := kStr) (ve := (fun _ => .agg #[])) (m := m) (k := (tt[k]).key) (dflt := ()) rfl rfl rfl Try.underlying99 Try.underlying9 zv101) ?_
      refine o_mv rfl rfl ?_
      refine o_ex rfl rfl rfl ?_
      refine o_ex rfl rfl rfl ?_
      refine o_alloc ze101 rfl (fun B9 => ?_)
      refine o_storeN (i := 0) (vs := []) (cs' := []) rfl rfl rfl sz101 rfl rfl rfl rfl ?_
      refine o_as rfl rfl ?_
      refine o_nil (q_then (c_seq (c_region ?_)))
      refine o_mv rfl rfl ?_
      refine o_nil (q_then ?_)
      refine c_cond rfl (fun hc10 => ?_) (fun hc10 => ?_)
      ·skip
       refine c_seq (c_region ?_)
       refine o_as rfl rfl ?_
       refine o_nil (q_then (c_ret ?_))
       refine q_then_ret (q_block_ret (q_then_ret (q_then_ret (q_block_ret (q_then_ret ?_)))))
       have hr0 : (6 : Int) = (Tab.check tt) := by
        first | exact Tab.ck1 (by omega) | exact Tab.ck2 (by omega) | exact Tab.ck3 (by omega) (by omega) (hI1.bad (by omega) ho) ho | exact Tab.ck3 (by omega) (by omega) (hI1.twice (by omega) ho hu ((hI2 _).1 (by assumption))) (by decide) | exact Tab.ck4 (by omega) (by omega) hz (hI.bad2 (by omega) hu) | exact Tab.ck4 (by omega) (by omega) hz (hI.done (by omega))
       refine q_end0 (v := Vi 6) (rt1 rfl (r_tmp rfl)) (i := 3) rfl ?_
       exact (by have hcc := congrArg (fun (y0 : Int) => (.int .i64 y0 : Value)) hr0; exact hcc)
      ·skip
       refine c_skip (q_then (c_region ?_))
       refine o_mv rfl rfl ?_
       refine o_p (p_fieldAddr (j' := 1) rfl fo33_1 rfl) ?_
       refine o_p (p_load (i := 1) (v := .string ((tt[k]).key)) rfl rfl sh9 rfl) ?_
       refine o_p (p_build (cells := []) fp101 ze101 rfl rfl) ?_
       refine o_mapUpdate (i := 2) (K := kStr) (ve := (fun _ => .agg #[])) (m := m) (k := (tt[k]).key) (v := ()) rfl rfl rfl rfl Try.underlying99 Try.underlying9 ?_
       refine o_nil ?_
       refine q_block_normal (q_then ?_)
       refine c_region ?_
       refine o_p (p_addb rfl rfl (by omega)) ?_
       refine o_mv rfl rfl ?_
       refine o_nil ?_
       refine q_round hK4 (k + 1, (AL.set m ((tt[k]).key) ())) ?_ ?_ ?_ ?_
       ·clear hK4
        first | exact ⟨hI1.skip (by omega) ho hu, hI2.skip (by omega) hu⟩ | exact ⟨hI1.next (by omega) ho hu (hI2.no (by assumption)), hI2.next (by omega) hu _⟩
       ·(try dsimp only); omega
       ·exact sr (sr (sr (sr (sr (Sub.nil _)))))
       ·exact pk [2, 3]
   ·simp only [decide_eq_false_iff_not, Int.not_lt] at hc5
    have hz := hI1.done (by omega)
    refine c_exit ?_
    refine q_then_exit (q_then_exit (q_block_exit (q_then ?_)))
    refine c_seq (c_seq (c_region ?_))
    refine o_mv rfl rfl ?_
    refine o_p (p_len_slice rfl rfl Try.underlying22) ?_
    refine o_mv rfl rfl ?_
    refine o_nil (q_then (c_block ?_))
    refine c_loop (St := Nat)
     (fun k => [(0, .slice att tt.length ctt), (47, .slice att tt.length ctt), (48, Vi (tt.length : Int)), (49, Vi (k : Int))])
     (fun k => [mapE kStr (fun _ => .agg #[]) B3 m, base w0])
     (fun k => Tab.AI tt k)
     (fun k => tt.length - k)
     0 ?_ (sr (sr (sr (sr (Sub.nil _))))) (fun _ hw => hw) ?_
    ·exact Tab.AI.start tt
    rintro k hI K hK11
    have hle := hI.le
    show SC _ _ Try.prog 63 w0 _ _ [(0, .slice att tt.length ctt), (47, .slice att tt.length ctt), (48, Vi (tt.length : Int)), (49, Vi (k : Int))] [mapE kStr (fun _ => .agg #[]) B3 m, base w0]
    refine c_seq (c_region ?_)
    refine o_p (p_lt rfl rfl) ?_
    refine o_nil (q_then (c_seq ?_))
    refine c_cond rfl (fun hc12 => ?_) (fun hc12 => ?_)
    ·simp only [decide_eq_true_eq] at hc12
     refine c_skip (q_then (c_seq (c_block (c_seq (c_region ?_)))))
     refine o_mv rfl rfl ?_
     refine o_p (p_indexAddr (L := tt) (T := tSlot) (i := (k : Int)) rfl rfl (rd_base (i := 1) rfl htt) Try.underlying22 sz33 (by omega) (by omega)) ?_
     refine o_p (p_loadEn (i := k) (T := tSlot) (L := tt) (vs := [.bool ((tt[k]).used), .string ((tt[k]).key), Vi ((tt[k]).value)]) rfl (rd_base (i := 1) rfl htt) (by first | assumption | omega) sh33 rfl) ?_
     refine o_alloc ze33 rfl (fun B13 => ?_)
     refine o_as rfl rfl ?_
     refine o_storeN (i := 0) (vs := [.bool ((tt[k]).used), .string ((tt[k]).key), Vi ((tt[k]).value)]) (cs' := [.bool ((tt[k]).used), .string ((tt[k]).key), Vi ((tt[k]).value)]) rfl rfl rfl sz33 rfl rfl rfl rfl ?_
     refine o_nil (q_then (c_seq (c_region ?_)))
     refine o_p (p_fieldAddr (j' := 0) rfl fo33_0 rfl) ?_
     refine o_p (p_load (i := 0) (v := .bool ((tt[k]).used)) rfl rfl sh4 rfl) ?_
     refine o_mv rfl rfl ?_
     refine o_and (p := 61) 5 (!(Tab.reached tt (k : Int))) ?_ ?_ ?_
     ·intro hb14 hk
      skip
      refine o_unguard 56 rfl rfl ?_
      refine o_mv rfl rfl ?_
      refine o_unguard 56 rfl rfl ?_
      refine o_mv rfl rfl ?_
      refine o_unguard 56 rfl rfl ?_
      refine o_call0 (v := .bool (Tab.reached tt (k : Int))) rfl (treached_ok tt att ctt (k : Int) (by first | assumption | exact ⟨by omega, by omega, by omega, Tab.key_le hz (by omega)⟩)) hf66 (fun w hw => (rd_base (i := 2) rfl htt) w hw) rfl ?_
      refine o_unguard 56 rfl rfl ?_
      refine o_p (p_not (b := (Tab.reached tt (k : Int))) rfl) ?_
      refine o_pt rfl rfl rfl ?_
      exact o_sub (sr (Sub.skip rfl (Sub.skip rfl (Sub.skip rfl (Sub.skip rfl (Sub.skip rfl (Sub.skip rfl (Sub.refl _)))))))) hk
     ·intro hb14 hk
      refine o_guard_no rfl 56 rfl rfl rfl rfl rfl ?_
      refine o_guard_no rfl 56 rfl rfl rfl rfl rfl ?_
      refine o_guard_no rfl 56 rfl rfl rfl rfl rfl ?_
      refine o_guard_no rfl 56 rfl rfl rfl rfl rfl ?_
      refine o_pf rfl rfl rfl ?_
      exact o_sub (sr (Sub.skip rfl (Sub.skip rfl (Sub.skip rfl (Sub.skip rfl (Sub.skip rfl (Sub.skip rfl (Sub.refl _)))))))) hk
     refine o_nil (q_then ?_)
     refine c_cond rfl (fun hc15 => ?_) (fun hc15 => ?_)
     ·simp only [Bool.and_eq_true, Bool.not_eq_true'] at hc15
      have hu := hc15
      refine c_seq (c_region ?_)
      refine o_as rfl rfl ?_
      refine o_nil (q_then (c_ret ?_))
      refine q_block_ret (q_then_ret (q_then_ret (q_block_ret (q_then_ret ?_))))
      have hr0 : (4 : Int) = (Tab.check tt) := by
       first | exact Tab.ck1 (by omega) | exact Tab.ck2 (by omega) | exact Tab.ck3 (by omega) (by omega) (hI1.bad (by omega) ho) ho | exact Tab.ck3 (by omega) (by omega) (hI1.twice (by omega) ho hu ((hI2 _).1 (by assumption))) (by decide) | exact Tab.ck4 (by omega) (by omega) hz (hI.bad2 (by omega) hu) | exact Tab.ck4 (by omega) (by omega) hz (hI.done (by omega))
      refine q_end0 (v := Vi 4) (rt1 rfl (r_tmp rfl)) (i := 2) rfl ?_
      exact (by have hcc := congrArg (fun (y0 : Int) => (.int .i64 y0 : Value)) hr0; exact hcc)
     ·simp only [Bool.and_eq_false_iff, Bool.not_eq_false'] at hc15
      have hu := hc15
      refine c_skip ?_
      refine q_block_normal (q_then ?_)
      refine c_region ?_
      refine o_p (p_addb rfl rfl (by omega)) ?_
      refine o_mv rfl rfl ?_
      refine o_nil ?_
      refine q_round hK11 (k + 1) ?_ ?_ ?_ ?_
      ·clear hK11
       exact hI.next2 (by omega) hu
      ·(try dsimp only); omega
      ·exact sr (sr (sr (sr (Sub.nil _))))
      ·exact pk [1, 2]
    ·simp only [decide_eq_false_iff_not, Int.not_lt] at hc12
     have hz := hI1.done (by omega)
     refine c_exit ?_
     refine q_then_exit (q_then_exit (q_block_exit (q_then ?_)))
     refine c_seq (c_region ?_)
     refine o_as rfl rfl ?_
     refine o_nil (q_then (c_ret ?_))
     have hr0 : (0 : Int) = (Tab.check tt) := by
      first | exact Tab.ck1 (by omega) | exact Tab.ck2 (by omega) | exact Tab.ck3 (by omega) (by omega) (hI1.bad (by omega) ho) ho | exact Tab.ck3 (by omega) (by omega) (hI1.twice (by omega) ho hu ((hI2 _).1 (by assumption))) (by decide) | exact Tab.ck4 (by omega) (by omega) hz (hI.bad2 (by omega) hu) | exact Tab.ck4 (by omega) (by omega) hz (hI.done (by omega))
     refine q_end0 (v := Vi 0) (rt1 rfl (r_tmp rfl)) (i := 1) rfl ?_
     exact (by have hcc := congrArg (fun (y0 : Int) => (.int .i64 y0 : Value)) hr0; exact hcc)

set_option maxHeartbeats 8000000 in
set_option maxRecDepth 100000 in
theorem tget_ok (tt : List DSlot) (att : Option Addr) (ctt : Nat) (key : ByteArray) : Fn0 Try.prog 15 [.slice att tt.length ctt, .string key] (fun w => Rd tSlot w att ctt tt) (.tuple #[Vi (Tab.has tt key), Vi (Tab.looked tt key), Vi (Tab.keyErr tt key)]) := by
 refine fn0 (nt := 32) (F0 := [(0, .slice att tt.length ctt), (1, .string key)]) Try.func15 rfl Try.ntmps15 rfl rfl (fun w0 hpre => ?_)
 have htt := hpre
 have hlhtt := htt.2.1
 refine c_seq (c_region ?_)
 refine o_as rfl rfl ?_
 refine o_as rfl rfl ?_
 refine o_as rfl rfl ?_
 refine o_nil (q_then (c_seq (c_seq (c_region ?_))))
 refine o_mv rfl rfl ?_
 refine o_call0 (v := Vi (Tab.check tt)) rfl (tcheck_ok tt att ctt) hf25 (fun w hw => (rd_base (i := 0) rfl htt) w hw) rfl ?_
 refine o_as rfl rfl ?_
 refine o_nil (q_then (c_seq (c_region ?_)))
 refine o_mv rfl rfl ?_
 refine o_p (p_ne rfl rfl) ?_
 refine o_nil (q_then ?_)
 refine c_cond rfl (fun hc1 => ?_) (fun hc1 => ?_)
 ·simp only [bne_iff_ne, ne_eq] at hc1
  refine c_seq (c_region ?_)
  refine o_mv rfl rfl ?_
  refine o_as rfl rfl ?_
  refine o_as rfl rfl ?_
  refine o_as rfl rfl ?_
  refine o_nil (q_then (c_ret ?_))
  refine q_then_ret ?_
  obtain ⟨c1, c2, c3⟩ : _ ∧ _ ∧ _ := by first | exact Tab.g1 (t := tt) (key := key) (by assumption) | exact Tab.g2 (t := tt) (key := key) hck (by assumption) | exact Tab.g3 (t := tt) (key := key) hck (by assumption) (by assumption) | exact Tab.g4 (t := tt) (key := key) hck (by assumption) (by assumption)
  have hr0 : (0 : Int) = (Tab.has tt key) := by
   first | exact c1.symm | exact c2.symm | exact c3.symm
  have hr1 : (0 : Int) = (Tab.looked tt key) := by
   first | exact c1.symm | exact c2.symm | exact c3.symm
  have hr2 : ((Tab.check tt) : Int) = (Tab.keyErr tt key) := by
   first | exact c1.symm | exact c2.symm | exact c3.symm
  refine q_end0 (v := .tuple #[Vi 0, Vi 0, Vi (Tab.check tt)]) (rt3 rfl (r_tmp rfl) (r_tmp rfl) (r_tmp rfl)) (i := 0) rfl ?_
  exact (by have hcc := congr (congr (congrArg (fun (y0 : Int) (y1 : Int) (y2 : Int) => (.tuple #[.int .i64 y0, .int .i64 y1, .int .i64 y2] : Value)) hr0) hr1) hr2; exact hcc)
 ·simp only [bne_eq_false_iff_eq] at hc1
  have hck := hc1
  have hln := Tab.ck_len hc1
  have hfb := Tab.find_lt key hln
  refine c_skip (q_then (c_seq (c_seq (c_region ?_))))
  refine o_mv rfl rfl ?_
  refine o_p (p_len_string rfl rfl Try.underlying9) ?_
  refine o_p (p_gt rfl rfl) ?_
  refine o_nil (q_then ?_)
  refine c_cond rfl (fun hc2 => ?_) (fun hc2 => ?_)
  ·simp only [decide_eq_true_eq] at hc2
   refine c_seq (c_region ?_)
   refine o_as rfl rfl ?_
   refine o_as rfl rfl ?_
   refine o_as rfl rfl ?_
   refine o_nil (q_then (c_ret ?_))
   refine q_then_ret ?_
   obtain ⟨c1, c2, c3⟩ : _ ∧ _ ∧ _ := by first | exact Tab.g1 (t := tt) (key := key) (by assumption) | exact Tab.g2 (t := tt) (key := key) hck (by assumption) | exact Tab.g3 (t := tt) (key := key) hck (by assumption) (by assumption) | exact Tab.g4 (t := tt) (key := key) hck (by assumption) (by assumption)
   have hr0 : (0 : Int) = (Tab.has tt key) := by
    first | exact c1.symm | exact c2.symm | exact c3.symm
   have hr1 : (0 : Int) = (Tab.looked tt key) := by
    first | exact c1.symm | exact c2.symm | exact c3.symm
   have hr2 : (3 : Int) = (Tab.keyErr tt key) := by
    first | exact c1.symm | exact c2.symm | exact c3.symm
   refine q_end0 (v := .tuple #[Vi 0, Vi 0, Vi 3]) (rt3 rfl (r_tmp rfl) (r_tmp rfl) (r_tmp rfl)) (i := 0) rfl ?_
   exact (by have hcc := congr (congr (congrArg (fun (y0 : Int) (y1 : Int) (y2 : Int) => (.tuple #[.int .i64 y0, .int .i64 y1, .int .i64 y2] : Value)) hr0) hr1) hr2; exact hcc)
  ·simp only [decide_eq_false_iff_not, Int.not_lt] at hc2
   refine c_skip (q_then (c_seq (c_region ?_)))
   refine o_mv rfl rfl ?_
   refine o_mv rfl rfl ?_
   refine o_call0 (v := .tuple #[Vi ((Tab.find tt key).1), Vi ((Tab.find tt key).2)]) rfl (tfind_ok tt att ctt key (by first | assumption | omega)) hf55 (fun w hw => (rd_base (i := 0) rfl htt) w hw) rfl ?_
   refine o_mv rfl rfl ?_
   refine o_ex rfl rfl rfl ?_
   refine o_ex rfl rfl rfl ?_
   refine o_as rfl rfl ?_
   refine o_as rfl rfl ?_
   refine o_nil (q_then (c_seq (c_seq (c_region ?_))))
   refine o_mv rfl rfl ?_
   refine o_p (p_lt rfl rfl) ?_
   refine o_nil (q_then ?_)
   refine c_cond rfl (fun hc3 => ?_) (fun hc3 => ?_)
   ·simp only [decide_eq_true_eq] at hc3
    refine c_seq (c_region ?_)
    refine o_as rfl rfl ?_
    refine o_as rfl rfl ?_
    refine o_as rfl rfl ?_
    refine o_nil (q_then (c_ret ?_))
    refine q_then_ret ?_
    obtain ⟨c1, c2, c3⟩ : _ ∧ _ ∧ _ := by first | exact Tab.g1 (t := tt) (key := key) (by assumption) | exact Tab.g2 (t := tt) (key := key) hck (by assumption) | exact Tab.g3 (t := tt) (key := key) hck (by assumption) (by assumption) | exact Tab.g4 (t := tt) (key := key) hck (by assumption) (by assumption)
    have hr0 : (0 : Int) = (Tab.has tt key) := by
     first | exact c1.symm | exact c2.symm | exact c3.symm
    have hr1 : (0 : Int) = (Tab.looked tt key) := by
     first | exact c1.symm | exact c2.symm | exact c3.symm
    have hr2 : (5 : Int) = (Tab.keyErr tt key) := by
     first | exact c1.symm | exact c2.symm | exact c3.symm
    refine q_end0 (v := .tuple #[Vi 0, Vi 0, Vi 5]) (rt3 rfl (r_tmp rfl) (r_tmp rfl) (r_tmp rfl)) (i := 0) rfl ?_
    exact (by have hcc := congr (congr (congrArg (fun (y0 : Int) (y1 : Int) (y2 : Int) => (.tuple #[.int .i64 y0, .int .i64 y1, .int .i64 y2] : Value)) hr0) hr1) hr2; exact hcc)
   ·simp only [decide_eq_false_iff_not, Int.not_lt] at hc3
    refine c_skip (q_then (c_seq (c_region ?_)))
    refine o_mv rfl rfl ?_
    refine o_mv rfl rfl ?_
    refine o_p (p_indexAddr (L := tt) (T := tSlot) (i := ((Tab.find tt key).1)) rfl rfl (rd_base (i := 0) rfl htt) Try.underlying22 sz33 (by omega) (by omega)) ?_
    refine o_p (p_fieldAddrE rfl fo33_2) ?_
    refine o_p (p_loadF (i := ((Tab.find tt key).1).toNat) (j := 2) (T := tSlot) (L := tt) (v := Vi ((tt.getD (((Tab.find tt key).1).toNat) default).value)) rfl (rd_base (i := 0) rfl htt) (by first | assumption | omega) sh3 (congrArg (fun z => (tSlot.enc z)[2]?) (getd_at (by first | assumption | omega) default))) ?_
    refine o_mv rfl rfl ?_
    refine o_as rfl rfl ?_
    refine o_as rfl rfl ?_
    refine o_as rfl rfl ?_
    refine o_nil (q_then (c_ret ?_))
    obtain ⟨c1, c2, c3⟩ : _ ∧ _ ∧ _ := by first | exact Tab.g1 (t := tt) (key := key) (by assumption) | exact Tab.g2 (t := tt) (key := key) hck (by assumption) | exact Tab.g3 (t := tt) (key := key) hck (by assumption) (by assumption) | exact Tab.g4 (t := tt) (key := key) hck (by assumption) (by assumption)
    have hr0 : ((tt.getD (((Tab.find tt key).1).toNat) default).value : Int) = (Tab.has tt key) := by
     first | exact c1.symm | exact c2.symm | exact c3.symm
    have hr1 : (((Tab.find tt key).2) : Int) = (Tab.looked tt key) := by
     first | exact c1.symm | exact c2.symm | exact c3.symm
    have hr2 : (0 : Int) = (Tab.keyErr tt key) := by
     first | exact c1.symm | exact c2.symm | exact c3.symm
    refine q_end0 (v := .tuple #[Vi ((tt.getD (((Tab.find tt key).1).toNat) default).value), Vi ((Tab.find tt key).2), Vi 0]) (rt3 rfl (r_tmp rfl) (r_tmp rfl) (r_tmp rfl)) (i := 0) rfl ?_
    exact (by have hcc := congr (congr (congrArg (fun (y0 : Int) (y1 : Int) (y2 : Int) => (.tuple #[.int .i64 y0, .int .i64 y1, .int .i64 y2] : Value)) hr0) hr1) hr2; exact hcc)
end Go.Proofs.Ythecfjipaepcgaa
