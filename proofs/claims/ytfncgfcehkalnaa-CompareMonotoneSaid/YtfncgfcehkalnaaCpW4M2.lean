/- The walks, printed by a program from the translation and a specification. -/
import Derived.Test.YtfncgfcehkalnaaCpF
import Derived.Test.YtfncgfcehkalnaaCpPureM3
namespace Go.Proofs.Ytfncgfcehkalnaa
open Go.Sx Go.RowKit
set_option maxHeartbeats 8000000 in
set_option maxRecDepth 100000 in
theorem grow_int_ok (l : List Int) (al : Option Addr) (cl : Nat) (Sl : Nat → Prop) (n : Int) (hy1 : l.length = 0 ∧ cl = 0 ∧ 0 ≤ n ∧ n ≤ 1000000) : FnX Try.prog 86 [.slice al l.length cl, .int .i64 n] [own tInt Sl al cl l] (fun _ => True) (Option Addr × Nat × (Nat → Prop)) (fun p => .slice p.1 l.length p.2.1) (fun p => [own tInt p.2.2 p.1 p.2.1 l]) := by
 refine fnX (nt := 27) (F0 := [(0, .slice al l.length cl), (1, .int .i64 n)]) Try.func86 rfl Try.ntmps86 rfl rfl (fun w0 hpre => ?_)
 refine c_know (fun w hw => own_len (i := 1) (T := tInt) hw rfl) (fun hlown_l => ?_)
 obtain ⟨hcown_l, hlown_l⟩ := hlown_l
 refine c_seq (c_region ?_)
 refine o_as rfl rfl ?_
 refine o_nil (q_then (c_seq (c_seq (c_region ?_))))
 refine o_mv rfl rfl ?_
 refine o_pure (p_lt (p := n) (q := 0) rfl rfl) rfl rfl rfl ?_
 refine o_nil (q_then ?_)
 refine c_cond (b := decide (n < 0)) rfl (fun hc1 => ?_) (fun hc1 => ?_)
 ·simp only [decide_eq_true_eq] at hc1
  exfalso; omega
 ·simp only [decide_eq_false_iff_not, Int.not_lt] at hc1
  refine c_skip (q_then (c_seq (c_seq (c_region ?_))))
  refine o_mv rfl rfl ?_
  refine o_mv rfl rfl ?_
  refine o_pure (p_cap_slice rfl rfl Try.underlying22) rfl rfl rfl ?_
  refine o_mv rfl rfl ?_
  refine o_pure (p_len_slice (len := l.length) rfl rfl Try.underlying22) rfl rfl rfl ?_
  refine o_pure (p_subb (p := (cl : Int)) (q := (l.length : Int)) rfl rfl (by omega)) rfl rfl rfl ?_
  refine o_pure (p_subb (p := n) (q := ((cl : Int) - (l.length : Int))) rfl rfl (by omega)) rfl rfl rfl ?_
  refine o_as rfl rfl ?_
  refine o_nil (q_then (c_seq (c_region ?_)))
  refine o_mv rfl rfl ?_
  refine o_pure (p_gt (p := (n - ((cl : Int) - (l.length : Int)))) (q := 0) rfl rfl) rfl rfl rfl ?_
  refine o_nil (q_then ?_)
  refine c_cond (b := decide (0 < (n - ((cl : Int) - (l.length : Int))))) rfl (fun hc2 => ?_) (fun hc2 => ?_)
  ·simp only [decide_eq_true_eq] at hc2
   refine c_region ?_
   refine o_mv rfl rfl ?_
   refine o_mv rfl rfl ?_
   refine o_pure (p_cap_slice rfl rfl Try.underlying22) rfl rfl rfl ?_
   refine o_pure (p_sliceH (L := l) (T := tInt) (h := (cl : Int)) rfl rfl Try.underlying22 sz3 (by omega) (by omega) (rd_own (i := 1) rfl)) rfl rfl rfl ?_
   refine o_mv rfl rfl ?_
   refine o_appendZ (i := 1) (m := cl) (k := n.toNat) (L := l) (T := tInt) (z := 0) rfl rfl rfl (by omega) Try.underlying22 Try.underlying3 el3 ze3 rfl (by decide) (by omega) rfl (fun a3 c4 S5 => ?_)
   refine o_know (fun w hw => own_len (i := 0) (T := tInt) hw rfl) (fun hlz7 => ?_)
   refine o_mv rfl rfl ?_
   refine o_pure (p_len_slice (len := l.length) rfl rfl Try.underlying22) rfl rfl rfl ?_
   refine o_pure (p_sliceH (L := ((l.take cl) ++ (List.replicate n.toNat 0))) (T := tInt) (h := (l.length : Int)) rfl rfl Try.underlying22 sz3 (by omega) (by omega) (rd_own (i := 0) rfl)) rfl rfl rfl ?_
   refine o_as rfl rfl ?_
   refine o_nil (q_then (c_seq (c_region ?_)))
   refine o_mv rfl rfl ?_
   refine o_as rfl rfl ?_
   refine o_nil (q_then (c_ret ?_))
   refine q_shrinkC (i := 0) (hi := (l.length : Int).toNat) (T := tInt) rfl (by omega) ?_
   have hr0 : ((((l.take cl) ++ (List.replicate n.toNat 0)).take ((l.length : Int).toNat)) : List Int) = l := by
    first | rfl | (rw [List.eq_nil_of_length_eq_zero hy1.1]; simp)
   refine q_endX (p := (a3, c4, S5)) (rt1 rfl (r_tmp rfl)) ?_ (fun w hw => ?_)
   ·exact (by have hcc := congrArg (fun (y0 : List Int) => (.slice a3 y0.length c4 : Value)) hr0; exact hcc)
   ·have h2 := hw.pick (H' := [outer w0 [own tInt Sl al cl l], own tInt S5 a3 c4 (((l.take cl) ++ (List.replicate n.toNat 0)).take ((l.length : Int).toNat))]) [1, 0] (by decide) rfl
    exact Eq.mp (congrArg (fun z => HeapIs w0 ((outer w0 [own tInt Sl al cl l]) :: z) w) ((by have hcc := congrArg (fun (y0 : List Int) => ([own tInt S5 a3 c4 y0] : List Ent)) hr0; exact hcc))) h2
  ·simp only [decide_eq_false_iff_not, Int.not_lt] at hc2
   refine c_skip (q_then (c_seq (c_region ?_)))
   refine o_mv rfl rfl ?_
   refine o_as rfl rfl ?_
   refine o_nil (q_then (c_ret ?_))
   refine q_endX (p := (al, cl, Sl)) (rt1 rfl (r_tmp rfl)) ?_ (fun w hw => ?_)
   ·exact rfl
   ·have h2 := hw.pick (H' := [outer w0 [own tInt Sl al cl l], own tInt Sl al cl l]) [0, 1] (by decide) rfl
    exact Eq.mp (congrArg (fun z => HeapIs w0 ((outer w0 [own tInt Sl al cl l]) :: z) w) (rfl)) h2

set_option maxHeartbeats 8000000 in
set_option maxRecDepth 100000 in
theorem concat_int_ok (l : List Hdr) (al : Option Addr) (cl : Nat) (hy1 : (catH l).length ≤ 1000000) : FnM Try.prog 55 [.slice al l.length cl] (fun w => Rd tHdr w al cl l ∧ (∀ h ∈ l, Rd tInt w h.a h.cap h.L)) (Option Addr × Nat) (fun p => .slice p.1 (catH l).length p.2) (fun p S w => SlO tInt S w p.1 p.2 (catH l)) := by
 refine fnM (nt := 36) (F0 := [(0, .slice al l.length cl)]) Try.func55 rfl Try.ntmps55 rfl rfl (fun w0 hpre => ?_)
 obtain ⟨hl, hrl⟩ := hpre
 have hlhl := hl.2.1
 refine c_seq (c_region ?_)
 refine o_as rfl rfl ?_
 refine o_nil (q_then (c_seq (c_region ?_)))
 refine o_as rfl rfl ?_
 refine o_nil (q_then (c_seq (c_seq (c_region ?_))))
 refine o_mv rfl rfl ?_
 refine o_pure (p_len_slice (len := l.length) rfl rfl Try.underlying112) rfl rfl rfl ?_
 refine o_mv rfl rfl ?_
 refine o_nil (q_then (c_block ?_))
 refine c_loop (St := Int × Nat)
  (fun ⟨size, k⟩ => [(0, .slice al l.length cl), (3, .int .i64 size), (9, .slice al l.length cl), (10, .int .i64 (l.length : Int)), (11, .int .i64 (k : Int))])
  (fun ⟨size, k⟩ => [base w0])
  (fun ⟨size, k⟩ => k ≤ l.length ∧ size = ((catH (l.take k)).length : Int))
  (fun ⟨size, k⟩ => l.length - k)
  (0, 0) ?_ (Sub.cons rfl (Sub.cons rfl (Sub.cons rfl (Sub.cons rfl (Sub.cons rfl (Sub.nil _)))))) (fun _ hw => hw) ?_
 ·exact ⟨Nat.zero_le _, by simp [catH]⟩
 rintro ⟨size, k⟩ hI K hK1
 show SC _ _ Try.prog 36 w0 _ _ [(0, .slice al l.length cl), (3, .int .i64 size), (9, .slice al l.length cl), (10, .int .i64 (l.length : Int)), (11, .int .i64 (k : Int))] [base w0]
 refine c_seq (c_region ?_)
 refine o_pure (p_lt (p := (k : Int)) (q := (l.length : Int)) rfl rfl) rfl rfl rfl ?_
 refine o_nil (q_then (c_seq ?_))
 refine c_cond (b := decide ((k : Int) < (l.length : Int))) rfl (fun hc2 => ?_) (fun hc2 => ?_)
 ·simp only [decide_eq_true_eq] at hc2
  have hst := congrArg List.length (catH_step (l := l) (k := k) (by omega))
  rw [List.length_append] at hst
  have hle1 := catH_le l (k + 1)
  refine c_skip (q_then (c_seq (c_block (c_seq (c_region ?_)))))
  refine o_pure (p_indexAddr (L := l) (T := tHdr) (i := (k : Int)) rfl rfl (rd_base (i := 0) rfl hl) Try.underlying112 sz22 (by omega) (by omega)) rfl rfl rfl ?_
  refine o_pure (p_loadE1 (i := k) (T := tHdr) (L := l) (v := .slice ((l[k]).a) ((l[k]).L).length ((l[k]).cap)) rfl (rd_base (i := 0) rfl hl) (by first | assumption | omega) sh22 rfl) rfl rfl rfl ?_
  refine o_as rfl rfl ?_
  refine o_nil (q_then (c_seq (c_region ?_)))
  refine o_mv rfl rfl ?_
  refine o_mv rfl rfl ?_
  refine o_pure (p_len_slice (len := ((l[k]).L).length) rfl rfl Try.underlying22) rfl rfl rfl ?_
  refine o_pure (p_addb (p := size) (q := (((l[k]).L).length : Int)) rfl rfl (by omega)) rfl rfl rfl ?_
  refine o_as rfl rfl ?_
  refine o_nil (q_then (c_seq (c_region ?_)))
  refine o_mv rfl rfl ?_
  refine o_pure (p_lt (p := (size + (((l[k]).L).length : Int))) (q := 0) rfl rfl) rfl rfl rfl ?_
  refine o_nil (q_then ?_)
  refine c_cond (b := decide ((size + (((l[k]).L).length : Int)) < 0)) rfl (fun hc3 => ?_) (fun hc3 => ?_)
  ·simp only [decide_eq_true_eq] at hc3
   exfalso; omega
  ·simp only [decide_eq_false_iff_not, Int.not_lt] at hc3
   refine c_skip ?_
   refine q_block_normal (q_then ?_)
   refine c_region ?_
   refine o_pure (p_addb (p := (k : Int)) (q := 1) rfl rfl (by omega)) rfl rfl rfl ?_
   refine o_mv rfl rfl ?_
   refine o_nil ?_
   refine q_round hK1 ((size + (((l[k]).L).length : Int)), k + 1) ?_ ?_ ?_ ?_
   ·clear hK1
    exact ⟨by omega, by omega⟩
   ·(try dsimp only); omega
   ·exact Sub.cons rfl (Sub.cons rfl (Sub.cons rfl (Sub.cons rfl (Sub.cons rfl (Sub.nil _)))))
   ·exact fun _ hw => HeapIs.pick hw [0] (by decide) rfl
 ·simp only [decide_eq_false_iff_not, Int.not_lt] at hc2
  have hle0 := catH_le l k
  refine c_exit ?_
  refine q_then_exit (q_then_exit (q_block_exit (q_then ?_)))
  refine c_seq (c_region ?_)
  refine o_mv rfl rfl ?_
  refine o_ownNil tInt ?_
  refine o_callX (pre := [own tInt (fun _ => False) none 0 ([])]) (R := [base w0]) rfl (grow_int_ok ([]) none 0 (fun _ => False) size (by first | exact ⟨rfl, rfl, by omega, by omega⟩)) hf86 rfl (fun _ _ => trivial) rfl ?_
  rintro ⟨a5, c6, S7⟩
  refine o_asH (H' := [own tInt S7 a5 c6 ([]), base w0]) rfl ?_
  refine o_as rfl rfl ?_
  refine o_nil (q_then (c_seq (c_seq (c_region ?_))))
  refine o_mv rfl rfl ?_
  refine o_pure (p_len_slice (len := l.length) rfl rfl Try.underlying112) rfl rfl rfl ?_
  refine o_mv rfl rfl ?_
  refine o_nil (q_then (c_block ?_))
  refine c_loop (St := List Int × Option Addr × Nat × (Nat → Prop) × Nat)
   (fun ⟨ns, ans, cns, Sns, k2⟩ => [(6, .slice ans ns.length cns), (25, .slice al l.length cl), (26, .int .i64 (l.length : Int)), (27, .int .i64 (k2 : Int))])
   (fun ⟨ns, ans, cns, Sns, k2⟩ => [own tInt Sns ans cns ns, base w0])
   (fun ⟨ns, ans, cns, Sns, k2⟩ => k2 ≤ l.length ∧ ns = catH (l.take k2))
   (fun ⟨ns, ans, cns, Sns, k2⟩ => l.length - k2)
   (([]), a5, c6, S7, 0) ?_ (Sub.cons rfl (Sub.cons rfl (Sub.cons rfl (Sub.cons rfl (Sub.nil _))))) (fun _ hw => hw) ?_
  ·exact ⟨Nat.zero_le _, by simp [catH]⟩
  rintro ⟨ns, ans, cns, Sns, k2⟩ hI K hK9
  have hnl : ns.length = (catH (l.take k2)).length := by rw [hI.2]
  show SC _ _ Try.prog 36 w0 _ _ [(6, .slice ans ns.length cns), (25, .slice al l.length cl), (26, .int .i64 (l.length : Int)), (27, .int .i64 (k2 : Int))] [own tInt Sns ans cns ns, base w0]
  refine c_seq (c_region ?_)
  refine o_pure (p_lt (p := (k2 : Int)) (q := (l.length : Int)) rfl rfl) rfl rfl rfl ?_
  refine o_nil (q_then (c_seq ?_))
  refine c_cond (b := decide ((k2 : Int) < (l.length : Int))) rfl (fun hc10 => ?_) (fun hc10 => ?_)
  ·simp only [decide_eq_true_eq] at hc10
   have hst := congrArg List.length (catH_step (l := l) (k := k2) (by omega))
   rw [List.length_append] at hst
   have hle1 := catH_le l (k2 + 1)
   refine c_skip (q_then (c_seq (c_block (c_seq (c_region ?_)))))
   refine o_pure (p_indexAddr (L := l) (T := tHdr) (i := (k2 : Int)) rfl rfl (rd_base (i := 1) rfl hl) Try.underlying112 sz22 (by omega) (by omega)) rfl rfl rfl ?_
   refine o_pure (p_loadE1 (i := k2) (T := tHdr) (L := l) (v := .slice ((l[k2]).a) ((l[k2]).L).length ((l[k2]).cap)) rfl (rd_base (i := 1) rfl hl) (by first | assumption | omega) sh22 rfl) rfl rfl rfl ?_
   refine o_as rfl rfl ?_
   refine o_nil (q_then (c_region ?_))
   refine o_mv rfl rfl ?_
   refine o_mv rfl rfl ?_
   refine o_append (i := 0) (L := ns) (M := (l[k2]).L) (T := tInt) rfl rfl rfl (rd_base (i := 1) rfl (hrl _ (List.getElem_mem (by first | assumption | omega)))) Try.underlying22 Try.underlying22 (by intro k h; cases h) el3 (by intro z; simp [tInt, one1]) (by decide) (by first | omega | (simp only [List.length_cons, List.length_nil]; omega) | (simp only [List.length_append, List.length_cons, List.length_nil, List.length_take, List.length_drop]; omega)) rfl (fun a11 c12 S13 => ?_)
   refine o_as rfl rfl ?_
   refine o_nil ?_
   refine q_block_normal (q_then ?_)
   refine c_region ?_
   refine o_pure (p_addb (p := (k2 : Int)) (q := 1) rfl rfl (by omega)) rfl rfl rfl ?_
   refine o_mv rfl rfl ?_
   refine o_nil ?_
   refine q_round hK9 ((ns ++ (l[k2]).L), a11, c12, S13, k2 + 1) ?_ ?_ ?_ ?_
   ·clear hK9
    exact ⟨by omega, (congrArg (fun z => z ++ _) hI.2).trans (catH_step (by omega)).symm⟩
   ·(try dsimp only); omega
   ·exact Sub.cons rfl (Sub.cons rfl (Sub.cons rfl (Sub.cons rfl (Sub.nil _))))
   ·exact fun _ hw => HeapIs.pick hw [0, 1] (by decide) rfl
  ·simp only [decide_eq_false_iff_not, Int.not_lt] at hc10
   refine c_exit ?_
   refine q_then_exit (q_then_exit (q_block_exit (q_then ?_)))
   refine c_seq (c_region ?_)
   refine o_mv rfl rfl ?_
   refine o_as rfl rfl ?_
   refine o_nil (q_then (c_ret ?_))
   have hr0 : (ns : List Int) = (catH l) := by
    exact hI.2.trans (catH_all (by omega))
   refine q_endM (p := (ans, cns)) Sns (rt1 rfl (r_tmp rfl)) (i := 1) rfl ?_ ?_ ?_
   ·exact (by have hcc := congrArg (fun (y0 : List Int) => (.slice ans y0.length cns : Value)) hr0; exact hcc)
   ·exact fun w hw => hw.above (i := 1) (j := 0) (by decide) rfl rfl
   ·intro w hw; exact Eq.mp (congrArg (fun y => SlO tInt _ w ans cns y) hr0) ((hw.at (i := 0) rfl).here)
theorem concat2_ok (x : List Int) (ax : Option Addr) (cx : Nat) (y : List Int) (ay : Option Addr) (cy : Nat) (al : Option Addr) (cl : Nat) (hy1 : x.length + y.length ≤ 1000000) :
  FnM Try.prog 55 [.slice al [(⟨ax, cx, x⟩ : Hdr), (⟨ay, cy, y⟩ : Hdr)].length cl] (fun w => Rd tHdr w al cl [(⟨ax, cx, x⟩ : Hdr), (⟨ay, cy, y⟩ : Hdr)] ∧ Rd tInt w ax cx x ∧ Rd tInt w ay cy y) (Option Addr × Nat) (fun p => .slice p.1 (x ++ y).length p.2) (fun p S w => SlO tInt S w p.1 p.2 (x ++ y)) := fun w hw => by
 have h := concat_int_ok [(⟨ax, cx, x⟩ : Hdr), (⟨ay, cy, y⟩ : Hdr)] al cl (by simp [catH]; omega) w ⟨hw.1, by intro h hm; simp only [List.mem_cons, List.not_mem_nil, or_false] at hm; rcases hm with rfl | rfl; exact hw.2.1; exact hw.2.2⟩
 rw [show catH [(⟨ax, cx, x⟩ : Hdr), (⟨ay, cy, y⟩ : Hdr)] = x ++ y by simp [catH]] at h
 exact h

set_option maxHeartbeats 8000000 in
set_option maxRecDepth 100000 in
theorem scheck_ok (h : DHalls) (ah_0 : Option Addr) (ch_0 : Nat) (ah_1 : Option Addr) (ch_1 : Nat) : Fn0 Try.prog 97 [.agg #[.int .i64 h.first, .int .i64 h.second, .slice ah_0 h.young.length ch_0, .slice ah_1 h.old.length ch_1]] (fun w => Rd tInt w ah_0 ch_0 h.young ∧ Rd tInt w ah_1 ch_1 h.old) (.int .i64 (Seg.check h)) := by
 refine fn0 (nt := 36) (F0 := [(0, .agg #[.int .i64 h.first, .int .i64 h.second, .slice ah_0 h.young.length ch_0, .slice ah_1 h.old.length ch_1])]) Try.func97 rfl Try.ntmps97 rfl rfl (fun w0 hpre => ?_)
 obtain ⟨hh_0, hh_1⟩ := hpre
 have hlhh_0 := hh_0.2.1
 have hlhh_1 := hh_1.2.1
 refine c_seq (c_region ?_)
 refine o_box (v := .agg #[.int .i64 h.first, .int .i64 h.second, .slice ah_0 h.young.length ch_0, .slice ah_1 h.old.length ch_1]) rfl rfl (fun B1 => ?_)
 refine o_as rfl rfl ?_
 refine o_nil (q_then (c_seq (c_block (c_seq (c_region ?_)))))
 refine o_pure (p_fieldAddr (B := B1) (j := 0) (j' := 0) rfl fo104_0 rfl) rfl rfl rfl ?_
 refine o_pure (p_load (i := 0) (v := .int .i64 h.first) rfl rfl sh3 rfl) rfl rfl rfl ?_
 refine o_call0 (v := .bool (Lru.okRoom h.first)) rfl (room_ok h.first) hf78 (fun _ _ => trivial) rfl ?_
 refine o_pure (p_not (b := (Lru.okRoom h.first)) rfl) rfl rfl rfl ?_
 refine o_mv rfl rfl ?_
 refine o_or (p := 13) 5 (!(Lru.okRoom h.second)) ?_ ?_ ?_
 ·intro hb2 hk
  simp only [Bool.not_eq_false'] at hb2
  refine o_unguard 8 rfl rfl ?_
  refine o_pure (p_fieldAddr (B := B1) (j := 0) (j' := 1) rfl fo104_1 rfl) rfl rfl rfl ?_
  refine o_unguard 8 rfl rfl ?_
  refine o_pure (p_load (i := 0) (v := .int .i64 h.second) rfl rfl sh3 rfl) rfl rfl rfl ?_
  refine o_unguard 8 rfl rfl ?_
  refine o_call0 (v := .bool (Lru.okRoom h.second)) rfl (room_ok h.second) hf78 (fun _ _ => trivial) rfl ?_
  refine o_unguard 8 rfl rfl ?_
  refine o_pure (p_not (b := (Lru.okRoom h.second)) rfl) rfl rfl rfl ?_
  refine o_pf rfl rfl rfl ?_
  exact o_sub (Sub.cons rfl (Sub.skip rfl (Sub.skip rfl (Sub.skip rfl (Sub.skip rfl (Sub.skip rfl (Sub.skip rfl (Sub.refl _)))))))) hk
 ·intro hb2 hk
  refine o_guard_no rfl 8 rfl rfl rfl rfl rfl ?_
  refine o_guard_no rfl 8 rfl rfl rfl rfl rfl ?_
  refine o_guard_no rfl 8 rfl rfl rfl rfl rfl ?_
  refine o_guard_no rfl 8 rfl rfl rfl rfl rfl ?_
  refine o_pt rfl rfl rfl ?_
  exact o_sub (Sub.cons rfl (Sub.skip rfl (Sub.skip rfl (Sub.skip rfl (Sub.skip rfl (Sub.skip rfl (Sub.skip rfl (Sub.refl _)))))))) hk
 refine o_as rfl rfl ?_
 refine o_nil (q_then ?_)
 refine c_cond (b := ((!(Lru.okRoom h.first)) || (!(Lru.okRoom h.second)))) rfl (fun hc3 => ?_) (fun hc3 => ?_)
 ·simp only [Bool.or_eq_true, Bool.not_eq_true'] at hc3
  refine c_seq (c_region ?_)
  refine o_as rfl rfl ?_
  refine o_nil (q_then (c_ret ?_))
  refine q_block_ret (q_then_ret ?_)
  have hr0 : (3 : Int) = (Seg.check h) := by
   first | exact Seg.chk1 (by assumption) | exact Seg.chk2 hrm (by omega) | exact Seg.chk3 hrm (by omega)
  refine q_end0 (v := .int .i64 3) (rt1 rfl (r_tmp rfl)) (i := 1) rfl ?_
  exact (by have hcc := congrArg (fun (y0 : Int) => (.int .i64 y0 : Value)) hr0; exact hcc)
 ·simp only [Bool.or_eq_false_iff, Bool.not_eq_false'] at hc3
  have hrm := hc3
  have hrn := Lru.room_ok hrm.1
  have hrf := Lru.room_ok hrm.2
  refine c_seq (c_region ?_)
  refine o_pure (p_fieldAddr (B := B1) (j := 0) (j' := 2) rfl fo104_2 rfl) rfl rfl rfl ?_
  refine o_pure (p_load (i := 0) (v := .slice ah_0 h.young.length ch_0) rfl rfl sh22 rfl) rfl rfl rfl ?_
  refine o_pure (p_len_slice (len := h.young.length) rfl rfl Try.underlying22) rfl rfl rfl ?_
  refine o_pure (p_fieldAddr (B := B1) (j := 0) (j' := 0) rfl fo104_0 rfl) rfl rfl rfl ?_
  refine o_pure (p_load (i := 0) (v := .int .i64 h.first) rfl rfl sh3 rfl) rfl rfl rfl ?_
  refine o_pure (p_gt (p := (h.young.length : Int)) (q := h.first) rfl rfl) rfl rfl rfl ?_
  refine o_mv rfl rfl ?_
  refine o_or (p := 28) 7 (decide (h.second < (h.old.length : Int))) ?_ ?_ ?_
  ·intro hb4 hk
   simp only [decide_eq_false_iff_not, Int.not_lt] at hb4
   refine o_unguard 21 rfl rfl ?_
   refine o_pure (p_fieldAddr (B := B1) (j := 0) (j' := 3) rfl fo104_3 rfl) rfl rfl rfl ?_
   refine o_unguard 21 rfl rfl ?_
   refine o_pure (p_load (i := 0) (v := .slice ah_1 h.old.length ch_1) rfl rfl sh22 rfl) rfl rfl rfl ?_
   refine o_unguard 21 rfl rfl ?_
   refine o_pure (p_len_slice (len := h.old.length) rfl rfl Try.underlying22) rfl rfl rfl ?_
   refine o_unguard 21 rfl rfl ?_
   refine o_pure (p_fieldAddr (B := B1) (j := 0) (j' := 1) rfl fo104_1 rfl) rfl rfl rfl ?_
   refine o_unguard 21 rfl rfl ?_
   refine o_pure (p_load (i := 0) (v := .int .i64 h.second) rfl rfl sh3 rfl) rfl rfl rfl ?_
   refine o_unguard 21 rfl rfl ?_
   refine o_pure (p_gt (p := (h.old.length : Int)) (q := h.second) rfl rfl) rfl rfl rfl ?_
   refine o_pf rfl rfl rfl ?_
   exact o_sub (Sub.cons rfl (Sub.skip rfl (Sub.skip rfl (Sub.skip rfl (Sub.skip rfl (Sub.skip rfl (Sub.skip rfl (Sub.skip rfl (Sub.skip rfl (Sub.refl _)))))))))) hk
  ·intro hb4 hk
   refine o_guard_no rfl 21 rfl rfl rfl rfl rfl ?_
   refine o_guard_no rfl 21 rfl rfl rfl rfl rfl ?_
   refine o_guard_no rfl 21 rfl rfl rfl rfl rfl ?_
   refine o_guard_no rfl 21 rfl rfl rfl rfl rfl ?_
   refine o_guard_no rfl 21 rfl rfl rfl rfl rfl ?_
   refine o_guard_no rfl 21 rfl rfl rfl rfl rfl ?_
   refine o_pt rfl rfl rfl ?_
   exact o_sub (Sub.cons rfl (Sub.skip rfl (Sub.skip rfl (Sub.skip rfl (Sub.skip rfl (Sub.skip rfl (Sub.skip rfl (Sub.skip rfl (Sub.skip rfl (Sub.refl _)))))))))) hk
  refine o_as rfl rfl ?_
  refine o_nil (q_then ?_)
  refine c_cond (b := (decide (h.first < (h.young.length : Int)) || decide (h.second < (h.old.length : Int)))) rfl (fun hc5 => ?_) (fun hc5 => ?_)
  ·simp only [Bool.or_eq_true, decide_eq_true_eq] at hc5
   refine c_seq (c_region ?_)
   refine o_as rfl rfl ?_
   refine o_nil (q_then (c_ret ?_))
   refine q_block_ret (q_then_ret ?_)
   have hr0 : (2 : Int) = (Seg.check h) := by
    first | exact Seg.chk1 (by assumption) | exact Seg.chk2 hrm (by omega) | exact Seg.chk3 hrm (by omega)
   refine q_end0 (v := .int .i64 2) (rt1 rfl (r_tmp rfl)) (i := 1) rfl ?_
   exact (by have hcc := congrArg (fun (y0 : Int) => (.int .i64 y0 : Value)) hr0; exact hcc)
  ·simp only [Bool.or_eq_false_iff, decide_eq_false_iff_not, Int.not_lt] at hc5
   refine c_skip ?_
   refine q_block_normal (q_then ?_)
   refine c_seq (c_region ?_)
   refine o_pure (p_fieldAddr (B := B1) (j := 0) (j' := 2) rfl fo104_2 rfl) rfl rfl rfl ?_
   refine o_pure (p_load (i := 0) (v := .slice ah_0 h.young.length ch_0) rfl rfl sh22 rfl) rfl rfl rfl ?_
   refine o_pure (p_fieldAddr (B := B1) (j := 0) (j' := 3) rfl fo104_3 rfl) rfl rfl rfl ?_
   refine o_pure (p_load (i := 0) (v := .slice ah_1 h.old.length ch_1) rfl rfl sh22 rfl) rfl rfl rfl ?_
   refine o_buildSlice (m := 2) (T := tHdr) (L := [(⟨ah_0, ch_0, h.young⟩ : Hdr), (⟨ah_1, ch_1, h.old⟩ : Hdr)]) (vs := [.slice ah_0 h.young.length ch_0, .slice ah_1 h.old.length ch_1]) rfl rfl rfl rfl Try.underlying112 sz22 (by decide) ze22 rfl (by decide) rfl (fun S6 a7 => ?_)
   refine o_callM rfl (concat2_ok h.young ah_0 ch_0 h.old ah_1 ch_1 a7 ([(⟨ah_0, ch_0, h.young⟩ : Hdr), (⟨ah_1, ch_1, h.old⟩ : Hdr)].length) (by first | omega | (simp only [List.length_append]; omega))) hf55 (fun w hw => ⟨(rd_own (i := 0) rfl) w hw, (rd_base (i := 2) rfl hh_0) w hw, (rd_base (i := 2) rfl hh_1) w hw⟩) rfl (fun _ _ _ _ ha hA => SlO.agree ha hA) ?_
   rintro ⟨a11, c12⟩ S9
   refine o_know (fun w hw => own_len (i := 0) (T := tInt) hw rfl) (fun hlr13 => ?_)
   refine o_call0 (v := .int .i64 (Lru.keys (h.young ++ h.old))) rfl (keys_ok (h.young ++ h.old) a11 c12) hf79 (fun w hw => (rd_own (i := 0) rfl) w hw) rfl ?_
   refine o_as rfl rfl ?_
   refine o_nil (q_then (c_ret ?_))
   have hr0 : ((Lru.keys (h.young ++ h.old)) : Int) = (Seg.check h) := by
    first | exact Seg.chk1 (by assumption) | exact Seg.chk2 hrm (by omega) | exact Seg.chk3 hrm (by omega)
   refine q_end0 (v := .int .i64 (Lru.keys (h.young ++ h.old))) (rt1 rfl (r_tmp rfl)) (i := 3) rfl ?_
   exact (by have hcc := congrArg (fun (y0 : Int) => (.int .i64 y0 : Value)) hr0; exact hcc)

set_option maxHeartbeats 8000000 in
set_option maxRecDepth 100000 in
theorem leave_young_ok (b : DHalls) (Bb : Nat) (ab_0 : Option Addr) (cb_0 : Nat) (Sb_0 : Nat → Prop) (ab_1 : Option Addr) (cb_1 : Nat) (Sb_1 : Nat → Prop) (key : Int) : FnX Try.prog 130 [.pointer (some ⟨Bb, 0, none⟩), .int .i64 key] [box Bb [.slice ab_0 b.young.length cb_0, .int .i64 b.first, .slice ab_1 b.old.length cb_1, .int .i64 b.second] 170, own tInt Sb_0 ab_0 cb_0 b.young, own tInt Sb_1 ab_1 cb_1 b.old] (fun _ => True) (Option Addr × Nat × (Nat → Prop) × Option Addr × Nat × (Nat → Prop)) (fun p => .bool (decide (key ∈ b.young))) (fun p => [box Bb [.slice p.1 (b.young.erase key).length p.2.1, .int .i64 b.first, .slice p.2.2.2.1 b.old.length p.2.2.2.2.1, .int .i64 b.second] 170, own tInt p.2.2.1 p.1 p.2.1 (b.young.erase key), own tInt p.2.2.2.2.2 p.2.2.2.1 p.2.2.2.2.1 b.old]) := by
 refine fnX (nt := 27) (F0 := [(0, .pointer (some ⟨Bb, 0, none⟩)), (1, .int .i64 key)]) Try.func130 rfl Try.ntmps130 rfl rfl (fun w0 hpre => ?_)
 refine c_know (fun w hw => own_len (i := 2) (T := tInt) hw rfl) (fun hlown_b_0 => ?_)
 obtain ⟨hcown_b_0, hlown_b_0⟩ := hlown_b_0
 refine c_know (fun w hw => own_len (i := 3) (T := tInt) hw rfl) (fun hlown_b_1 => ?_)
 obtain ⟨hcown_b_1, hlown_b_1⟩ := hlown_b_1
 refine c_seq (c_region ?_)
 refine o_as rfl rfl ?_
 refine o_nil (q_then (c_seq (c_region ?_)))
 refine o_mv rfl rfl ?_
 refine o_pure (p_nilCheck rfl) rfl rfl rfl ?_
 refine o_pure (p_fieldAddr (B := Bb) (j := 0) (j' := 0) rfl fo168_0 rfl) rfl rfl rfl ?_
 refine o_pure (p_load (i := 1) (v := .slice ab_0 b.young.length cb_0) rfl rfl sh22 rfl) rfl rfl rfl ?_
 refine o_mv rfl rfl ?_
 refine o_call0 (v := .int .i64 (idxF (fun x : Int => (x == key)) b.young)) rfl (index_int_ok b.young ab_0 cb_0 key) hf81 (fun w hw => (rd_own (i := 2) rfl) w hw) rfl ?_
 refine o_as rfl rfl ?_
 refine o_nil (q_then (c_seq (c_seq (c_region ?_))))
 refine o_mv rfl rfl ?_
 refine o_pure (p_ge (p := (idxF (fun x : Int => (x == key)) b.young)) (q := 0) rfl rfl) rfl rfl rfl ?_
 refine o_nil (q_then ?_)
 refine c_cond (b := decide (0 ≤ (idxF (fun x : Int => (x == key)) b.young))) rfl (fun hc1 => ?_) (fun hc1 => ?_)
 ·simp only [decide_eq_true_eq] at hc1
  have hix : idxF (fun x : Int => (x == key)) b.young < b.young.length ∧ -1 ≤ idxF (fun x : Int => (x == key)) b.young := Lru.at_lt _ key
  have hnn : 0 ≤ idxF (fun x : Int => (x == key)) b.young := by omega
  refine c_region ?_
  refine o_mv rfl rfl ?_
  refine o_mv rfl rfl ?_
  refine o_pure (p_nilCheck rfl) rfl rfl rfl ?_
  refine o_pure (p_fieldAddr (B := Bb) (j := 0) (j' := 0) rfl fo168_0 rfl) rfl rfl rfl ?_
  refine o_pure (p_load (i := 1) (v := .slice ab_0 b.young.length cb_0) rfl rfl sh22 rfl) rfl rfl rfl ?_
  refine o_mv rfl rfl ?_
  refine o_mv rfl rfl ?_
  refine o_pure (p_addb (p := (idxF (fun x : Int => (x == key)) b.young)) (q := 1) rfl rfl (by omega)) rfl rfl rfl ?_
  refine o_pick (H' := [own tInt Sb_0 ab_0 cb_0 b.young, outer w0 [box Bb [.slice ab_0 b.young.length cb_0, .int .i64 b.first, .slice ab_1 b.old.length cb_1, .int .i64 b.second] 170, own tInt Sb_0 ab_0 cb_0 b.young, own tInt Sb_1 ab_1 cb_1 b.old], box Bb [.slice ab_0 b.young.length cb_0, .int .i64 b.first, .slice ab_1 b.old.length cb_1, .int .i64 b.second] 170, own tInt Sb_1 ab_1 cb_1 b.old]) [2, 0, 1, 3] (by decide) rfl ?_
  refine o_callX (pre := [own tInt Sb_0 ab_0 cb_0 b.young]) (R := [outer w0 [box Bb [.slice ab_0 b.young.length cb_0, .int .i64 b.first, .slice ab_1 b.old.length cb_1, .int .i64 b.second] 170, own tInt Sb_0 ab_0 cb_0 b.young, own tInt Sb_1 ab_1 cb_1 b.old], box Bb [.slice ab_0 b.young.length cb_0, .int .i64 b.first, .slice ab_1 b.old.length cb_1, .int .i64 b.second] 170, own tInt Sb_1 ab_1 cb_1 b.old]) rfl (delete_Int_ok b.young ab_0 cb_0 Sb_0 (idxF (fun x : Int => (x == key)) b.young) ((idxF (fun x : Int => (x == key)) b.young) + 1) (by omega)) hf82 rfl (fun _ _ => trivial) rfl ?_
  rintro ⟨a2, c3, S4⟩
  refine o_asH (H' := [own tInt S4 a2 c3 (b.young.take (idxF (fun x : Int => (x == key)) b.young).toNat ++ b.young.drop ((idxF (fun x : Int => (x == key)) b.young) + 1).toNat), outer w0 [box Bb [.slice ab_0 b.young.length cb_0, .int .i64 b.first, .slice ab_1 b.old.length cb_1, .int .i64 b.second] 170, own tInt Sb_0 ab_0 cb_0 b.young, own tInt Sb_1 ab_1 cb_1 b.old], box Bb [.slice ab_0 b.young.length cb_0, .int .i64 b.first, .slice ab_1 b.old.length cb_1, .int .i64 b.second] 170, own tInt Sb_1 ab_1 cb_1 b.old]) rfl ?_
  refine o_pure (p_nilCheck rfl) rfl rfl rfl ?_
  refine o_pure (p_fieldAddr (B := Bb) (j := 0) (j' := 0) rfl fo168_0 rfl) rfl rfl rfl ?_
  refine o_store (i := 2) (v := .slice a2 (b.young.take (idxF (fun x : Int => (x == key)) b.young).toNat ++ b.young.drop ((idxF (fun x : Int => (x == key)) b.young) + 1).toNat).length c3) (cs' := [.slice a2 (b.young.take (idxF (fun x : Int => (x == key)) b.young).toNat ++ b.young.drop ((idxF (fun x : Int => (x == key)) b.young) + 1).toNat).length c3, .int .i64 b.first, .slice ab_1 b.old.length cb_1, .int .i64 b.second]) rfl rfl rfl sz22 rfl rfl rfl ?_
  refine o_nil (q_then (c_seq (c_region ?_)))
  refine o_mv rfl rfl ?_
  refine o_pure (p_ge (p := (idxF (fun x : Int => (x == key)) b.young)) (q := 0) rfl rfl) rfl rfl rfl ?_
  refine o_as rfl rfl ?_
  refine o_nil (q_then (c_ret ?_))
  have hr0 : ((b.young.take (idxF (fun x : Int => (x == key)) b.young).toNat ++ b.young.drop ((idxF (fun x : Int => (x == key)) b.young) + 1).toNat) : List Int) = b.young.erase key := by
   first | (rw [show (idxF (fun x : Int => (x == key)) b.young + 1).toNat = (idxF (fun x : Int => (x == key)) b.young).toNat + 1 by omega]; exact Lru.erase_at hnn) | exact (List.erase_of_not_mem hne).symm | exact decide_eq_decide.2 Lru.at_mem
  have hr4 : (decide (0 ≤ (idxF (fun x : Int => (x == key)) b.young)) : Bool) = (decide (key ∈ b.young)) := by
   first | (rw [show (idxF (fun x : Int => (x == key)) b.young + 1).toNat = (idxF (fun x : Int => (x == key)) b.young).toNat + 1 by omega]; exact Lru.erase_at hnn) | exact (List.erase_of_not_mem hne).symm | exact decide_eq_decide.2 Lru.at_mem
  refine q_endX (p := (a2, c3, S4, ab_1, cb_1, Sb_1)) (rt1 rfl (r_tmp rfl)) ?_ (fun w hw => ?_)
  ·exact (by have hcc := congr (congrArg (fun (y0 : List Int) (y4 : Bool) => (.bool y4 : Value)) hr0) hr4; exact hcc)
  ·have h2 := hw.pick (H' := [outer w0 [box Bb [.slice ab_0 b.young.length cb_0, .int .i64 b.first, .slice ab_1 b.old.length cb_1, .int .i64 b.second] 170, own tInt Sb_0 ab_0 cb_0 b.young, own tInt Sb_1 ab_1 cb_1 b.old], box Bb [.slice a2 (b.young.take (idxF (fun x : Int => (x == key)) b.young).toNat ++ b.young.drop ((idxF (fun x : Int => (x == key)) b.young) + 1).toNat).length c3, .int .i64 b.first, .slice ab_1 b.old.length cb_1, .int .i64 b.second] 170, own tInt S4 a2 c3 (b.young.take (idxF (fun x : Int => (x == key)) b.young).toNat ++ b.young.drop ((idxF (fun x : Int => (x == key)) b.young) + 1).toNat), own tInt Sb_1 ab_1 cb_1 b.old]) [1, 2, 0, 3] (by decide) rfl
   exact Eq.mp (congrArg (fun z => HeapIs w0 ((outer w0 [box Bb [.slice ab_0 b.young.length cb_0, .int .i64 b.first, .slice ab_1 b.old.length cb_1, .int .i64 b.second] 170, own tInt Sb_0 ab_0 cb_0 b.young, own tInt Sb_1 ab_1 cb_1 b.old]) :: z) w) ((by have hcc := congr (congrArg (fun (y0 : List Int) (y4 : Bool) => ([box Bb [.slice a2 y0.length c3, .int .i64 b.first, .slice ab_1 b.old.length cb_1, .int .i64 b.second] 170, own tInt S4 a2 c3 y0, own tInt Sb_1 ab_1 cb_1 b.old] : List Ent)) hr0) hr4; exact hcc))) h2
 ·simp only [decide_eq_false_iff_not, Int.not_le] at hc1
  have hne : key ∉ b.young := fun h => by have := Lru.at_mem.2 h; unfold Lru.at_ at this; omega
  refine c_skip (q_then (c_seq (c_region ?_)))
  refine o_mv rfl rfl ?_
  refine o_pure (p_ge (p := (idxF (fun x : Int => (x == key)) b.young)) (q := 0) rfl rfl) rfl rfl rfl ?_
  refine o_as rfl rfl ?_
  refine o_nil (q_then (c_ret ?_))
  have hr0 : (b.young : List Int) = b.young.erase key := by
   first | (rw [show (idxF (fun x : Int => (x == key)) b.young + 1).toNat = (idxF (fun x : Int => (x == key)) b.young).toNat + 1 by omega]; exact Lru.erase_at hnn) | exact (List.erase_of_not_mem hne).symm | exact decide_eq_decide.2 Lru.at_mem
  have hr4 : (decide (0 ≤ (idxF (fun x : Int => (x == key)) b.young)) : Bool) = (decide (key ∈ b.young)) := by
   first | (rw [show (idxF (fun x : Int => (x == key)) b.young + 1).toNat = (idxF (fun x : Int => (x == key)) b.young).toNat + 1 by omega]; exact Lru.erase_at hnn) | exact (List.erase_of_not_mem hne).symm | exact decide_eq_decide.2 Lru.at_mem
  refine q_endX (p := (ab_0, cb_0, Sb_0, ab_1, cb_1, Sb_1)) (rt1 rfl (r_tmp rfl)) ?_ (fun w hw => ?_)
  ·exact (by have hcc := congr (congrArg (fun (y0 : List Int) (y4 : Bool) => (.bool y4 : Value)) hr0) hr4; exact hcc)
  ·have h2 := hw.pick (H' := [outer w0 [box Bb [.slice ab_0 b.young.length cb_0, .int .i64 b.first, .slice ab_1 b.old.length cb_1, .int .i64 b.second] 170, own tInt Sb_0 ab_0 cb_0 b.young, own tInt Sb_1 ab_1 cb_1 b.old], box Bb [.slice ab_0 b.young.length cb_0, .int .i64 b.first, .slice ab_1 b.old.length cb_1, .int .i64 b.second] 170, own tInt Sb_0 ab_0 cb_0 b.young, own tInt Sb_1 ab_1 cb_1 b.old]) [0, 1, 2, 3] (by decide) rfl
   exact Eq.mp (congrArg (fun z => HeapIs w0 ((outer w0 [box Bb [.slice ab_0 b.young.length cb_0, .int .i64 b.first, .slice ab_1 b.old.length cb_1, .int .i64 b.second] 170, own tInt Sb_0 ab_0 cb_0 b.young, own tInt Sb_1 ab_1 cb_1 b.old]) :: z) w) ((by have hcc := congr (congrArg (fun (y0 : List Int) (y4 : Bool) => ([box Bb [.slice ab_0 y0.length cb_0, .int .i64 b.first, .slice ab_1 b.old.length cb_1, .int .i64 b.second] 170, own tInt Sb_0 ab_0 cb_0 y0, own tInt Sb_1 ab_1 cb_1 b.old] : List Ent)) hr0) hr4; exact hcc))) h2

set_option maxHeartbeats 8000000 in
set_option maxRecDepth 100000 in
theorem leave_old_ok (b : DHalls) (Bb : Nat) (ab_0 : Option Addr) (cb_0 : Nat) (Sb_0 : Nat → Prop) (ab_1 : Option Addr) (cb_1 : Nat) (Sb_1 : Nat → Prop) (key : Int) : FnX Try.prog 130 [.pointer (some ⟨Bb, 2, none⟩), .int .i64 key] [box Bb [.slice ab_0 b.young.length cb_0, .int .i64 b.first, .slice ab_1 b.old.length cb_1, .int .i64 b.second] 170, own tInt Sb_0 ab_0 cb_0 b.young, own tInt Sb_1 ab_1 cb_1 b.old] (fun _ => True) (Option Addr × Nat × (Nat → Prop) × Option Addr × Nat × (Nat → Prop)) (fun p => .bool (decide (key ∈ b.old))) (fun p => [box Bb [.slice p.1 b.young.length p.2.1, .int .i64 b.first, .slice p.2.2.2.1 (b.old.erase key).length p.2.2.2.2.1, .int .i64 b.second] 170, own tInt p.2.2.1 p.1 p.2.1 b.young, own tInt p.2.2.2.2.2 p.2.2.2.1 p.2.2.2.2.1 (b.old.erase key)]) := by
 refine fnX (nt := 27) (F0 := [(0, .pointer (some ⟨Bb, 2, none⟩)), (1, .int .i64 key)]) Try.func130 rfl Try.ntmps130 rfl rfl (fun w0 hpre => ?_)
 refine c_know (fun w hw => own_len (i := 2) (T := tInt) hw rfl) (fun hlown_b_0 => ?_)
 obtain ⟨hcown_b_0, hlown_b_0⟩ := hlown_b_0
 refine c_know (fun w hw => own_len (i := 3) (T := tInt) hw rfl) (fun hlown_b_1 => ?_)
 obtain ⟨hcown_b_1, hlown_b_1⟩ := hlown_b_1
 refine c_seq (c_region ?_)
 refine o_as rfl rfl ?_
 refine o_nil (q_then (c_seq (c_region ?_)))
 refine o_mv rfl rfl ?_
 refine o_pure (p_nilCheck rfl) rfl rfl rfl ?_
 refine o_pure (p_fieldAddr (B := Bb) (j := 2) (j' := 2) rfl fo168_0 rfl) rfl rfl rfl ?_
 refine o_pure (p_load (i := 1) (v := .slice ab_1 b.old.length cb_1) rfl rfl sh22 rfl) rfl rfl rfl ?_
 refine o_mv rfl rfl ?_
 refine o_call0 (v := .int .i64 (idxF (fun x : Int => (x == key)) b.old)) rfl (index_int_ok b.old ab_1 cb_1 key) hf81 (fun w hw => (rd_own (i := 3) rfl) w hw) rfl ?_
 refine o_as rfl rfl ?_
 refine o_nil (q_then (c_seq (c_seq (c_region ?_))))
 refine o_mv rfl rfl ?_
 refine o_pure (p_ge (p := (idxF (fun x : Int => (x == key)) b.old)) (q := 0) rfl rfl) rfl rfl rfl ?_
 refine o_nil (q_then ?_)
 refine c_cond (b := decide (0 ≤ (idxF (fun x : Int => (x == key)) b.old))) rfl (fun hc1 => ?_) (fun hc1 => ?_)
 ·simp only [decide_eq_true_eq] at hc1
  have hix : idxF (fun x : Int => (x == key)) b.old < b.old.length ∧ -1 ≤ idxF (fun x : Int => (x == key)) b.old := Lru.at_lt _ key
  have hnn : 0 ≤ idxF (fun x : Int => (x == key)) b.old := by omega
  refine c_region ?_
  refine o_mv rfl rfl ?_
  refine o_mv rfl rfl ?_
  refine o_pure (p_nilCheck rfl) rfl rfl rfl ?_
  refine o_pure (p_fieldAddr (B := Bb) (j := 2) (j' := 2) rfl fo168_0 rfl) rfl rfl rfl ?_
  refine o_pure (p_load (i := 1) (v := .slice ab_1 b.old.length cb_1) rfl rfl sh22 rfl) rfl rfl rfl ?_
  refine o_mv rfl rfl ?_
  refine o_mv rfl rfl ?_
  refine o_pure (p_addb (p := (idxF (fun x : Int => (x == key)) b.old)) (q := 1) rfl rfl (by omega)) rfl rfl rfl ?_
  refine o_pick (H' := [own tInt Sb_1 ab_1 cb_1 b.old, outer w0 [box Bb [.slice ab_0 b.young.length cb_0, .int .i64 b.first, .slice ab_1 b.old.length cb_1, .int .i64 b.second] 170, own tInt Sb_0 ab_0 cb_0 b.young, own tInt Sb_1 ab_1 cb_1 b.old], box Bb [.slice ab_0 b.young.length cb_0, .int .i64 b.first, .slice ab_1 b.old.length cb_1, .int .i64 b.second] 170, own tInt Sb_0 ab_0 cb_0 b.young]) [3, 0, 1, 2] (by decide) rfl ?_
  refine o_callX (pre := [own tInt Sb_1 ab_1 cb_1 b.old]) (R := [outer w0 [box Bb [.slice ab_0 b.young.length cb_0, .int .i64 b.first, .slice ab_1 b.old.length cb_1, .int .i64 b.second] 170, own tInt Sb_0 ab_0 cb_0 b.young, own tInt Sb_1 ab_1 cb_1 b.old], box Bb [.slice ab_0 b.young.length cb_0, .int .i64 b.first, .slice ab_1 b.old.length cb_1, .int .i64 b.second] 170, own tInt Sb_0 ab_0 cb_0 b.young]) rfl (delete_Int_ok b.old ab_1 cb_1 Sb_1 (idxF (fun x : Int => (x == key)) b.old) ((idxF (fun x : Int => (x == key)) b.old) + 1) (by omega)) hf82 rfl (fun _ _ => trivial) rfl ?_
  rintro ⟨a2, c3, S4⟩
  refine o_asH (H' := [own tInt S4 a2 c3 (b.old.take (idxF (fun x : Int => (x == key)) b.old).toNat ++ b.old.drop ((idxF (fun x : Int => (x == key)) b.old) + 1).toNat), outer w0 [box Bb [.slice ab_0 b.young.length cb_0, .int .i64 b.first, .slice ab_1 b.old.length cb_1, .int .i64 b.second] 170, own tInt Sb_0 ab_0 cb_0 b.young, own tInt Sb_1 ab_1 cb_1 b.old], box Bb [.slice ab_0 b.young.length cb_0, .int .i64 b.first, .slice ab_1 b.old.length cb_1, .int .i64 b.second] 170, own tInt Sb_0 ab_0 cb_0 b.young]) rfl ?_
  refine o_pure (p_nilCheck rfl) rfl rfl rfl ?_
  refine o_pure (p_fieldAddr (B := Bb) (j := 2) (j' := 2) rfl fo168_0 rfl) rfl rfl rfl ?_
  refine o_store (i := 2) (v := .slice a2 (b.old.take (idxF (fun x : Int => (x == key)) b.old).toNat ++ b.old.drop ((idxF (fun x : Int => (x == key)) b.old) + 1).toNat).length c3) (cs' := [.slice ab_0 b.young.length cb_0, .int .i64 b.first, .slice a2 (b.old.take (idxF (fun x : Int => (x == key)) b.old).toNat ++ b.old.drop ((idxF (fun x : Int => (x == key)) b.old) + 1).toNat).length c3, .int .i64 b.second]) rfl rfl rfl sz22 rfl rfl rfl ?_
  refine o_nil (q_then (c_seq (c_region ?_)))
  refine o_mv rfl rfl ?_
  refine o_pure (p_ge (p := (idxF (fun x : Int => (x == key)) b.old)) (q := 0) rfl rfl) rfl rfl rfl ?_
  refine o_as rfl rfl ?_
  refine o_nil (q_then (c_ret ?_))
  have hr2 : ((b.old.take (idxF (fun x : Int => (x == key)) b.old).toNat ++ b.old.drop ((idxF (fun x : Int => (x == key)) b.old) + 1).toNat) : List Int) = b.old.erase key := by
   first | (rw [show (idxF (fun x : Int => (x == key)) b.old + 1).toNat = (idxF (fun x : Int => (x == key)) b.old).toNat + 1 by omega]; exact Lru.erase_at hnn) | exact (List.erase_of_not_mem hne).symm | exact decide_eq_decide.2 Lru.at_mem
  have hr4 : (decide (0 ≤ (idxF (fun x : Int => (x == key)) b.old)) : Bool) = (decide (key ∈ b.old)) := by
   first | (rw [show (idxF (fun x : Int => (x == key)) b.old + 1).toNat = (idxF (fun x : Int => (x == key)) b.old).toNat + 1 by omega]; exact Lru.erase_at hnn) | exact (List.erase_of_not_mem hne).symm | exact decide_eq_decide.2 Lru.at_mem
  refine q_endX (p := (ab_0, cb_0, Sb_0, a2, c3, S4)) (rt1 rfl (r_tmp rfl)) ?_ (fun w hw => ?_)
  ·exact (by have hcc := congr (congrArg (fun (y2 : List Int) (y4 : Bool) => (.bool y4 : Value)) hr2) hr4; exact hcc)
  ·have h2 := hw.pick (H' := [outer w0 [box Bb [.slice ab_0 b.young.length cb_0, .int .i64 b.first, .slice ab_1 b.old.length cb_1, .int .i64 b.second] 170, own tInt Sb_0 ab_0 cb_0 b.young, own tInt Sb_1 ab_1 cb_1 b.old], box Bb [.slice ab_0 b.young.length cb_0, .int .i64 b.first, .slice a2 (b.old.take (idxF (fun x : Int => (x == key)) b.old).toNat ++ b.old.drop ((idxF (fun x : Int => (x == key)) b.old) + 1).toNat).length c3, .int .i64 b.second] 170, own tInt Sb_0 ab_0 cb_0 b.young, own tInt S4 a2 c3 (b.old.take (idxF (fun x : Int => (x == key)) b.old).toNat ++ b.old.drop ((idxF (fun x : Int => (x == key)) b.old) + 1).toNat)]) [1, 2, 3, 0] (by decide) rfl
   exact Eq.mp (congrArg (fun z => HeapIs w0 ((outer w0 [box Bb [.slice ab_0 b.young.length cb_0, .int .i64 b.first, .slice ab_1 b.old.length cb_1, .int .i64 b.second] 170, own tInt Sb_0 ab_0 cb_0 b.young, own tInt Sb_1 ab_1 cb_1 b.old]) :: z) w) ((by have hcc := congr (congrArg (fun (y2 : List Int) (y4 : Bool) => ([box Bb [.slice ab_0 b.young.length cb_0, .int .i64 b.first, .slice a2 y2.length c3, .int .i64 b.second] 170, own tInt Sb_0 ab_0 cb_0 b.young, own tInt S4 a2 c3 y2] : List Ent)) hr2) hr4; exact hcc))) h2
 ·simp only [decide_eq_false_iff_not, Int.not_le] at hc1
  have hne : key ∉ b.old := fun h => by have := Lru.at_mem.2 h; unfold Lru.at_ at this; omega
  refine c_skip (q_then (c_seq (c_region ?_)))
  refine o_mv rfl rfl ?_
  refine o_pure (p_ge (p := (idxF (fun x : Int => (x == key)) b.old)) (q := 0) rfl rfl) rfl rfl rfl ?_
  refine o_as rfl rfl ?_
  refine o_nil (q_then (c_ret ?_))
  have hr2 : (b.old : List Int) = b.old.erase key := by
   first | (rw [show (idxF (fun x : Int => (x == key)) b.old + 1).toNat = (idxF (fun x : Int => (x == key)) b.old).toNat + 1 by omega]; exact Lru.erase_at hnn) | exact (List.erase_of_not_mem hne).symm | exact decide_eq_decide.2 Lru.at_mem
  have hr4 : (decide (0 ≤ (idxF (fun x : Int => (x == key)) b.old)) : Bool) = (decide (key ∈ b.old)) := by
   first | (rw [show (idxF (fun x : Int => (x == key)) b.old + 1).toNat = (idxF (fun x : Int => (x == key)) b.old).toNat + 1 by omega]; exact Lru.erase_at hnn) | exact (List.erase_of_not_mem hne).symm | exact decide_eq_decide.2 Lru.at_mem
  refine q_endX (p := (ab_0, cb_0, Sb_0, ab_1, cb_1, Sb_1)) (rt1 rfl (r_tmp rfl)) ?_ (fun w hw => ?_)
  ·exact (by have hcc := congr (congrArg (fun (y2 : List Int) (y4 : Bool) => (.bool y4 : Value)) hr2) hr4; exact hcc)
  ·have h2 := hw.pick (H' := [outer w0 [box Bb [.slice ab_0 b.young.length cb_0, .int .i64 b.first, .slice ab_1 b.old.length cb_1, .int .i64 b.second] 170, own tInt Sb_0 ab_0 cb_0 b.young, own tInt Sb_1 ab_1 cb_1 b.old], box Bb [.slice ab_0 b.young.length cb_0, .int .i64 b.first, .slice ab_1 b.old.length cb_1, .int .i64 b.second] 170, own tInt Sb_0 ab_0 cb_0 b.young, own tInt Sb_1 ab_1 cb_1 b.old]) [0, 1, 2, 3] (by decide) rfl
   exact Eq.mp (congrArg (fun z => HeapIs w0 ((outer w0 [box Bb [.slice ab_0 b.young.length cb_0, .int .i64 b.first, .slice ab_1 b.old.length cb_1, .int .i64 b.second] 170, own tInt Sb_0 ab_0 cb_0 b.young, own tInt Sb_1 ab_1 cb_1 b.old]) :: z) w) ((by have hcc := congr (congrArg (fun (y2 : List Int) (y4 : Bool) => ([box Bb [.slice ab_0 b.young.length cb_0, .int .i64 b.first, .slice ab_1 y2.length cb_1, .int .i64 b.second] 170, own tInt Sb_0 ab_0 cb_0 b.young, own tInt Sb_1 ab_1 cb_1 y2] : List Ent)) hr2) hr4; exact hcc))) h2

set_option maxHeartbeats 8000000 in
set_option maxRecDepth 100000 in
theorem enter_young_ok (b : DHalls) (Bb : Nat) (ab_0 : Option Addr) (cb_0 : Nat) (Sb_0 : Nat → Prop) (ab_1 : Option Addr) (cb_1 : Nat) (Sb_1 : Nat → Prop) (key : Int) (hy1 : 0 ≤ b.first ∧ b.young.length ≤ 1000) : FnX Try.prog 131 [.pointer (some ⟨Bb, 0, none⟩), .int .i64 key] [box Bb [.slice ab_0 b.young.length cb_0, .int .i64 b.first, .slice ab_1 b.old.length cb_1, .int .i64 b.second] 170, own tInt Sb_0 ab_0 cb_0 b.young, own tInt Sb_1 ab_1 cb_1 b.old] (fun _ => True) (Option Addr × Nat × (Nat → Prop) × Option Addr × Nat × (Nat → Prop) × Option Addr × Nat × (Nat → Prop)) (fun p => .slice p.2.2.2.2.2.2.1 ((key :: b.young).drop b.first.toNat).length p.2.2.2.2.2.2.2.1) (fun p => [box Bb [.slice p.1 ((key :: b.young).take b.first.toNat).length p.2.1, .int .i64 b.first, .slice p.2.2.2.1 b.old.length p.2.2.2.2.1, .int .i64 b.second] 170, own tInt p.2.2.1 p.1 p.2.1 ((key :: b.young).take b.first.toNat), own tInt p.2.2.2.2.2.1 p.2.2.2.1 p.2.2.2.2.1 b.old, own tInt p.2.2.2.2.2.2.2.2 p.2.2.2.2.2.2.1 p.2.2.2.2.2.2.2.1 ((key :: b.young).drop b.first.toNat)]) := by
 refine fnX (nt := 44) (F0 := [(0, .pointer (some ⟨Bb, 0, none⟩)), (1, .int .i64 key)]) Try.func131 rfl Try.ntmps131 rfl rfl (fun w0 hpre => ?_)
 refine c_know (fun w hw => own_len (i := 2) (T := tInt) hw rfl) (fun hlown_b_0 => ?_)
 obtain ⟨hcown_b_0, hlown_b_0⟩ := hlown_b_0
 refine c_know (fun w hw => own_len (i := 3) (T := tInt) hw rfl) (fun hlown_b_1 => ?_)
 obtain ⟨hcown_b_1, hlown_b_1⟩ := hlown_b_1
 refine c_seq (c_region ?_)
 refine o_as rfl rfl ?_
 refine o_nil (q_then (c_seq (c_region ?_)))
 refine o_mv rfl rfl ?_
 refine o_mv rfl rfl ?_
 refine o_pure (p_nilCheck rfl) rfl rfl rfl ?_
 refine o_pure (p_fieldAddr (B := Bb) (j := 0) (j' := 0) rfl fo168_0 rfl) rfl rfl rfl ?_
 refine o_pure (p_load (i := 1) (v := .slice ab_0 b.young.length cb_0) rfl rfl sh22 rfl) rfl rfl rfl ?_
 refine o_mv rfl rfl ?_
 refine o_buildSlice (m := 1) (T := tInt) (L := [key]) (vs := [.int .i64 key]) rfl rfl rfl rfl Try.underlying22 sz3 (by decide) ze3 rfl (by decide) rfl (fun S1 a2 => ?_)
 refine o_pick (H' := [own tInt Sb_0 ab_0 cb_0 b.young, own tInt S1 a2 ([key].length) ([key]), outer w0 [box Bb [.slice ab_0 b.young.length cb_0, .int .i64 b.first, .slice ab_1 b.old.length cb_1, .int .i64 b.second] 170, own tInt Sb_0 ab_0 cb_0 b.young, own tInt Sb_1 ab_1 cb_1 b.old], box Bb [.slice ab_0 b.young.length cb_0, .int .i64 b.first, .slice ab_1 b.old.length cb_1, .int .i64 b.second] 170, own tInt Sb_1 ab_1 cb_1 b.old]) [3, 0, 1, 2, 4] (by decide) rfl ?_
 refine o_callX (pre := [own tInt Sb_0 ab_0 cb_0 b.young, own tInt S1 a2 ([key].length) ([key])]) (R := [outer w0 [box Bb [.slice ab_0 b.young.length cb_0, .int .i64 b.first, .slice ab_1 b.old.length cb_1, .int .i64 b.second] 170, own tInt Sb_0 ab_0 cb_0 b.young, own tInt Sb_1 ab_1 cb_1 b.old], box Bb [.slice ab_0 b.young.length cb_0, .int .i64 b.first, .slice ab_1 b.old.length cb_1, .int .i64 b.second] 170, own tInt Sb_1 ab_1 cb_1 b.old]) rfl (insert_Int_ok b.young ab_0 cb_0 Sb_0 (0 : Int) ([key]) a2 ([key].length) S1 (by (try simp only [List.length_cons, List.length_nil, List.length_append, List.length_take, List.length_drop, and_true]); omega)) hf83 rfl (fun _ _ => trivial) rfl ?_
 rintro ⟨a4, c5, S6⟩
 refine o_asH (H' := [own tInt S6 a4 c5 (b.young.take (0 : Int).toNat ++ ([key]) ++ b.young.drop (0 : Int).toNat), outer w0 [box Bb [.slice ab_0 b.young.length cb_0, .int .i64 b.first, .slice ab_1 b.old.length cb_1, .int .i64 b.second] 170, own tInt Sb_0 ab_0 cb_0 b.young, own tInt Sb_1 ab_1 cb_1 b.old], box Bb [.slice ab_0 b.young.length cb_0, .int .i64 b.first, .slice ab_1 b.old.length cb_1, .int .i64 b.second] 170, own tInt Sb_1 ab_1 cb_1 b.old]) rfl ?_
 refine o_pure (p_nilCheck rfl) rfl rfl rfl ?_
 refine o_pure (p_fieldAddr (B := Bb) (j := 0) (j' := 0) rfl fo168_0 rfl) rfl rfl rfl ?_
 refine o_store (i := 2) (v := .slice a4 (b.young.take (0 : Int).toNat ++ ([key]) ++ b.young.drop (0 : Int).toNat).length c5) (cs' := [.slice a4 (b.young.take (0 : Int).toNat ++ ([key]) ++ b.young.drop (0 : Int).toNat).length c5, .int .i64 b.first, .slice ab_1 b.old.length cb_1, .int .i64 b.second]) rfl rfl rfl sz22 rfl rfl rfl ?_
 refine o_nil (q_then (c_seq ?_))
 refine c_draw hmix (by kernel_rfl) ?_
 refine w_mv rfl rfl ?_
 refine w_pure (p_nilCheck rfl) rfl rfl rfl ?_
 refine w_pure (p_fieldAddr (B := Bb) (j := 0) (j' := 0) rfl fo168_0 rfl) rfl rfl rfl ?_
 refine w_pure (p_load (i := 2) (v := .slice a4 (b.young.take (0 : Int).toNat ++ ([key]) ++ b.young.drop (0 : Int).toNat).length c5) rfl rfl sh22 rfl) rfl rfl rfl ?_
 refine w_pure (p_len_slice (len := (b.young.take (0 : Int).toNat ++ ([key]) ++ b.young.drop (0 : Int).toNat).length) rfl rfl Try.underlying22) rfl rfl rfl ?_
 refine w_mv rfl rfl ?_
 refine w_pure (p_nilCheck rfl) rfl rfl rfl ?_
 refine w_pure (p_fieldAddr (B := Bb) (j := 0) (j' := 1) rfl fo168_1 rfl) rfl rfl rfl ?_
 refine w_pure (p_load (i := 2) (v := .int .i64 b.first) rfl rfl sh3 rfl) rfl rfl rfl ?_
 refine w_pure (p_min (p := ((b.young.take (0 : Int).toNat ++ ([key]) ++ b.young.drop (0 : Int).toNat).length : Int)) (q := b.first) rfl rfl) rfl rfl rfl ?_
 refine w_pure (p_assign (v := .int .i64 (min ((b.young.take (0 : Int).toNat ++ ([key]) ++ b.young.drop (0 : Int).toNat).length : Int) b.first)) rfl) rfl rfl rfl ?_
 refine w_nil (q_then (c_seq (c_region ?_)))
 refine o_mv rfl rfl ?_
 refine o_pure (p_nilCheck rfl) rfl rfl rfl ?_
 refine o_pure (p_fieldAddr (B := Bb) (j := 0) (j' := 0) rfl fo168_0 rfl) rfl rfl rfl ?_
 refine o_pure (p_load (i := 2) (v := .slice a4 (b.young.take (0 : Int).toNat ++ ([key]) ++ b.young.drop (0 : Int).toNat).length c5) rfl rfl sh22 rfl) rfl rfl rfl ?_
 refine o_mv rfl rfl ?_
 refine o_pure (p_sliceL (L := (b.young.take (0 : Int).toNat ++ ([key]) ++ b.young.drop (0 : Int).toNat)) (T := tInt) (l := (min ((b.young.take (0 : Int).toNat ++ ([key]) ++ b.young.drop (0 : Int).toNat).length : Int) b.first)) rfl rfl Try.underlying22 sz3 (by omega) (by omega) (rd_own (i := 0) rfl)) rfl rfl rfl ?_
 refine o_callM rfl (clone_Int_ok ((b.young.take (0 : Int).toNat ++ ([key]) ++ b.young.drop (0 : Int).toNat).drop ((min ((b.young.take (0 : Int).toNat ++ ([key]) ++ b.young.drop (0 : Int).toNat).length : Int) b.first).toNat)) (sa a4 c5 ((min ((b.young.take (0 : Int).toNat ++ ([key]) ++ b.young.drop (0 : Int).toNat).length : Int) b.first).toNat) tInt.k) (c5 - (min ((b.young.take (0 : Int).toNat ++ ([key]) ++ b.young.drop (0 : Int).toNat).length : Int) b.first).toNat) (by first | assumption | omega | (simp only [List.length_append, List.length_take, List.length_drop, List.length_cons, List.length_nil]; omega))) hf80 (fun w hw => (rd_dropC (l := (min ((b.young.take (0 : Int).toNat ++ ([key]) ++ b.young.drop (0 : Int).toNat).length : Int) b.first).toNat) (rd_own (i := 0) rfl) (by omega)) w hw) rfl (fun _ _ _ _ ha hA => SlO.agree ha hA) ?_
 rintro ⟨a10, c11⟩ S8
 refine o_know (fun w hw => own_len (i := 0) (T := tInt) hw rfl) (fun hlr12 => ?_)
 refine o_as rfl rfl ?_
 refine o_nil (q_then (c_seq (c_region ?_)))
 refine o_mv rfl rfl ?_
 refine o_mv rfl rfl ?_
 refine o_pure (p_nilCheck rfl) rfl rfl rfl ?_
 refine o_pure (p_fieldAddr (B := Bb) (j := 0) (j' := 0) rfl fo168_0 rfl) rfl rfl rfl ?_
 refine o_pure (p_load (i := 3) (v := .slice a4 (b.young.take (0 : Int).toNat ++ ([key]) ++ b.young.drop (0 : Int).toNat).length c5) rfl rfl sh22 rfl) rfl rfl rfl ?_
 refine o_mv rfl rfl ?_
 refine o_pure (p_sliceH (L := (b.young.take (0 : Int).toNat ++ ([key]) ++ b.young.drop (0 : Int).toNat)) (T := tInt) (h := (min ((b.young.take (0 : Int).toNat ++ ([key]) ++ b.young.drop (0 : Int).toNat).length : Int) b.first)) rfl rfl Try.underlying22 sz3 (by omega) (by omega) (rd_own (i := 1) rfl)) rfl rfl rfl ?_
 refine o_pure (p_nilCheck rfl) rfl rfl rfl ?_
 refine o_pure (p_fieldAddr (B := Bb) (j := 0) (j' := 0) rfl fo168_0 rfl) rfl rfl rfl ?_
 refine o_shrinkC (i := 1) (hi := (min ((b.young.take (0 : Int).toNat ++ ([key]) ++ b.young.drop (0 : Int).toNat).length : Int) b.first).toNat) (T := tInt) rfl (by omega) ?_
 refine o_store (i := 3) (v := .slice a4 ((b.young.take (0 : Int).toNat ++ ([key]) ++ b.young.drop (0 : Int).toNat).take ((min ((b.young.take (0 : Int).toNat ++ ([key]) ++ b.young.drop (0 : Int).toNat).length : Int) b.first).toNat)).length c5) (cs' := [.slice a4 ((b.young.take (0 : Int).toNat ++ ([key]) ++ b.young.drop (0 : Int).toNat).take ((min ((b.young.take (0 : Int).toNat ++ ([key]) ++ b.young.drop (0 : Int).toNat).length : Int) b.first).toNat)).length c5, .int .i64 b.first, .slice ab_1 b.old.length cb_1, .int .i64 b.second]) rfl rfl rfl sz22 rfl rfl rfl ?_
 refine o_nil (q_then (c_seq (c_region ?_)))
 refine o_mv rfl rfl ?_
 refine o_as rfl rfl ?_
 refine o_nil (q_then (c_ret ?_))
 have hr0 : (((b.young.take (0 : Int).toNat ++ ([key]) ++ b.young.drop (0 : Int).toNat).take ((min ((b.young.take (0 : Int).toNat ++ ([key]) ++ b.young.drop (0 : Int).toNat).length : Int) b.first).toNat)) : List Int) = (key :: b.young).take b.first.toNat := by
  first | (rw [Seg.min_len]; exact Seg.cut_a _ _ _) | (rw [Seg.min_len]; exact Seg.cut_b _ _ _)
 have hr4 : (((b.young.take (0 : Int).toNat ++ ([key]) ++ b.young.drop (0 : Int).toNat).drop ((min ((b.young.take (0 : Int).toNat ++ ([key]) ++ b.young.drop (0 : Int).toNat).length : Int) b.first).toNat)) : List Int) = ((key :: b.young).drop b.first.toNat) := by
  first | (rw [Seg.min_len]; exact Seg.cut_a _ _ _) | (rw [Seg.min_len]; exact Seg.cut_b _ _ _)
 refine q_endX (p := (a4, c5, S6, ab_1, cb_1, Sb_1, a10, c11, S8)) (rt1 rfl (r_tmp rfl)) ?_ (fun w hw => ?_)
 ·exact (by have hcc := congr (congrArg (fun (y0 : List Int) (y4 : List Int) => (.slice a10 y4.length c11 : Value)) hr0) hr4; exact hcc)
 ·have h2 := hw.pick (H' := [outer w0 [box Bb [.slice ab_0 b.young.length cb_0, .int .i64 b.first, .slice ab_1 b.old.length cb_1, .int .i64 b.second] 170, own tInt Sb_0 ab_0 cb_0 b.young, own tInt Sb_1 ab_1 cb_1 b.old], box Bb [.slice a4 ((b.young.take (0 : Int).toNat ++ ([key]) ++ b.young.drop (0 : Int).toNat).take ((min ((b.young.take (0 : Int).toNat ++ ([key]) ++ b.young.drop (0 : Int).toNat).length : Int) b.first).toNat)).length c5, .int .i64 b.first, .slice ab_1 b.old.length cb_1, .int .i64 b.second] 170, own tInt S6 a4 c5 ((b.young.take (0 : Int).toNat ++ ([key]) ++ b.young.drop (0 : Int).toNat).take ((min ((b.young.take (0 : Int).toNat ++ ([key]) ++ b.young.drop (0 : Int).toNat).length : Int) b.first).toNat)), own tInt Sb_1 ab_1 cb_1 b.old, own tInt S8 a10 c11 ((b.young.take (0 : Int).toNat ++ ([key]) ++ b.young.drop (0 : Int).toNat).drop ((min ((b.young.take (0 : Int).toNat ++ ([key]) ++ b.young.drop (0 : Int).toNat).length : Int) b.first).toNat))]) [2, 3, 1, 4, 0] (by decide) rfl
  exact Eq.mp (congrArg (fun z => HeapIs w0 ((outer w0 [box Bb [.slice ab_0 b.young.length cb_0, .int .i64 b.first, .slice ab_1 b.old.length cb_1, .int .i64 b.second] 170, own tInt Sb_0 ab_0 cb_0 b.young, own tInt Sb_1 ab_1 cb_1 b.old]) :: z) w) ((by have hcc := congr (congrArg (fun (y0 : List Int) (y4 : List Int) => ([box Bb [.slice a4 y0.length c5, .int .i64 b.first, .slice ab_1 b.old.length cb_1, .int .i64 b.second] 170, own tInt S6 a4 c5 y0, own tInt Sb_1 ab_1 cb_1 b.old, own tInt S8 a10 c11 y4] : List Ent)) hr0) hr4; exact hcc))) h2

set_option maxHeartbeats 8000000 in
set_option maxRecDepth 100000 in
theorem enter_old_ok (b : DHalls) (Bb : Nat) (ab_0 : Option Addr) (cb_0 : Nat) (Sb_0 : Nat → Prop) (ab_1 : Option Addr) (cb_1 : Nat) (Sb_1 : Nat → Prop) (key : Int) (hy1 : 0 ≤ b.second ∧ b.old.length ≤ 1000) : FnX Try.prog 131 [.pointer (some ⟨Bb, 2, none⟩), .int .i64 key] [box Bb [.slice ab_0 b.young.length cb_0, .int .i64 b.first, .slice ab_1 b.old.length cb_1, .int .i64 b.second] 170, own tInt Sb_0 ab_0 cb_0 b.young, own tInt Sb_1 ab_1 cb_1 b.old] (fun _ => True) (Option Addr × Nat × (Nat → Prop) × Option Addr × Nat × (Nat → Prop) × Option Addr × Nat × (Nat → Prop)) (fun p => .slice p.2.2.2.2.2.2.1 ((key :: b.old).drop b.second.toNat).length p.2.2.2.2.2.2.2.1) (fun p => [box Bb [.slice p.1 b.young.length p.2.1, .int .i64 b.first, .slice p.2.2.2.1 ((key :: b.old).take b.second.toNat).length p.2.2.2.2.1, .int .i64 b.second] 170, own tInt p.2.2.1 p.1 p.2.1 b.young, own tInt p.2.2.2.2.2.1 p.2.2.2.1 p.2.2.2.2.1 ((key :: b.old).take b.second.toNat), own tInt p.2.2.2.2.2.2.2.2 p.2.2.2.2.2.2.1 p.2.2.2.2.2.2.2.1 ((key :: b.old).drop b.second.toNat)]) := by
 refine fnX (nt := 44) (F0 := [(0, .pointer (some ⟨Bb, 2, none⟩)), (1, .int .i64 key)]) Try.func131 rfl Try.ntmps131 rfl rfl (fun w0 hpre => ?_)
 refine c_know (fun w hw => own_len (i := 2) (T := tInt) hw rfl) (fun hlown_b_0 => ?_)
 obtain ⟨hcown_b_0, hlown_b_0⟩ := hlown_b_0
 refine c_know (fun w hw => own_len (i := 3) (T := tInt) hw rfl) (fun hlown_b_1 => ?_)
 obtain ⟨hcown_b_1, hlown_b_1⟩ := hlown_b_1
 refine c_seq (c_region ?_)
 refine o_as rfl rfl ?_
 refine o_nil (q_then (c_seq (c_region ?_)))
 refine o_mv rfl rfl ?_
 refine o_mv rfl rfl ?_
 refine o_pure (p_nilCheck rfl) rfl rfl rfl ?_
 refine o_pure (p_fieldAddr (B := Bb) (j := 2) (j' := 2) rfl fo168_0 rfl) rfl rfl rfl ?_
 refine o_pure (p_load (i := 1) (v := .slice ab_1 b.old.length cb_1) rfl rfl sh22 rfl) rfl rfl rfl ?_
 refine o_mv rfl rfl ?_
 refine o_buildSlice (m := 1) (T := tInt) (L := [key]) (vs := [.int .i64 key]) rfl rfl rfl rfl Try.underlying22 sz3 (by decide) ze3 rfl (by decide) rfl (fun S1 a2 => ?_)
 refine o_pick (H' := [own tInt Sb_1 ab_1 cb_1 b.old, own tInt S1 a2 ([key].length) ([key]), outer w0 [box Bb [.slice ab_0 b.young.length cb_0, .int .i64 b.first, .slice ab_1 b.old.length cb_1, .int .i64 b.second] 170, own tInt Sb_0 ab_0 cb_0 b.young, own tInt Sb_1 ab_1 cb_1 b.old], box Bb [.slice ab_0 b.young.length cb_0, .int .i64 b.first, .slice ab_1 b.old.length cb_1, .int .i64 b.second] 170, own tInt Sb_0 ab_0 cb_0 b.young]) [4, 0, 1, 2, 3] (by decide) rfl ?_
 refine o_callX (pre := [own tInt Sb_1 ab_1 cb_1 b.old, own tInt S1 a2 ([key].length) ([key])]) (R := [outer w0 [box Bb [.slice ab_0 b.young.length cb_0, .int .i64 b.first, .slice ab_1 b.old.length cb_1, .int .i64 b.second] 170, own tInt Sb_0 ab_0 cb_0 b.young, own tInt Sb_1 ab_1 cb_1 b.old], box Bb [.slice ab_0 b.young.length cb_0, .int .i64 b.first, .slice ab_1 b.old.length cb_1, .int .i64 b.second] 170, own tInt Sb_0 ab_0 cb_0 b.young]) rfl (insert_Int_ok b.old ab_1 cb_1 Sb_1 (0 : Int) ([key]) a2 ([key].length) S1 (by (try simp only [List.length_cons, List.length_nil, List.length_append, List.length_take, List.length_drop, and_true]); omega)) hf83 rfl (fun _ _ => trivial) rfl ?_
 rintro ⟨a4, c5, S6⟩
 refine o_asH (H' := [own tInt S6 a4 c5 (b.old.take (0 : Int).toNat ++ ([key]) ++ b.old.drop (0 : Int).toNat), outer w0 [box Bb [.slice ab_0 b.young.length cb_0, .int .i64 b.first, .slice ab_1 b.old.length cb_1, .int .i64 b.second] 170, own tInt Sb_0 ab_0 cb_0 b.young, own tInt Sb_1 ab_1 cb_1 b.old], box Bb [.slice ab_0 b.young.length cb_0, .int .i64 b.first, .slice ab_1 b.old.length cb_1, .int .i64 b.second] 170, own tInt Sb_0 ab_0 cb_0 b.young]) rfl ?_
 refine o_pure (p_nilCheck rfl) rfl rfl rfl ?_
 refine o_pure (p_fieldAddr (B := Bb) (j := 2) (j' := 2) rfl fo168_0 rfl) rfl rfl rfl ?_
 refine o_store (i := 2) (v := .slice a4 (b.old.take (0 : Int).toNat ++ ([key]) ++ b.old.drop (0 : Int).toNat).length c5) (cs' := [.slice ab_0 b.young.length cb_0, .int .i64 b.first, .slice a4 (b.old.take (0 : Int).toNat ++ ([key]) ++ b.old.drop (0 : Int).toNat).length c5, .int .i64 b.second]) rfl rfl rfl sz22 rfl rfl rfl ?_
 refine o_nil (q_then (c_seq ?_))
 refine c_draw hmix (by kernel_rfl) ?_
 refine w_mv rfl rfl ?_
 refine w_pure (p_nilCheck rfl) rfl rfl rfl ?_
 refine w_pure (p_fieldAddr (B := Bb) (j := 2) (j' := 2) rfl fo168_0 rfl) rfl rfl rfl ?_
 refine w_pure (p_load (i := 2) (v := .slice a4 (b.old.take (0 : Int).toNat ++ ([key]) ++ b.old.drop (0 : Int).toNat).length c5) rfl rfl sh22 rfl) rfl rfl rfl ?_
 refine w_pure (p_len_slice (len := (b.old.take (0 : Int).toNat ++ ([key]) ++ b.old.drop (0 : Int).toNat).length) rfl rfl Try.underlying22) rfl rfl rfl ?_
 refine w_mv rfl rfl ?_
 refine w_pure (p_nilCheck rfl) rfl rfl rfl ?_
 refine w_pure (p_fieldAddr (B := Bb) (j := 2) (j' := 3) rfl fo168_1 rfl) rfl rfl rfl ?_
 refine w_pure (p_load (i := 2) (v := .int .i64 b.second) rfl rfl sh3 rfl) rfl rfl rfl ?_
 refine w_pure (p_min (p := ((b.old.take (0 : Int).toNat ++ ([key]) ++ b.old.drop (0 : Int).toNat).length : Int)) (q := b.second) rfl rfl) rfl rfl rfl ?_
 refine w_pure (p_assign (v := .int .i64 (min ((b.old.take (0 : Int).toNat ++ ([key]) ++ b.old.drop (0 : Int).toNat).length : Int) b.second)) rfl) rfl rfl rfl ?_
 refine w_nil (q_then (c_seq (c_region ?_)))
 refine o_mv rfl rfl ?_
 refine o_pure (p_nilCheck rfl) rfl rfl rfl ?_
 refine o_pure (p_fieldAddr (B := Bb) (j := 2) (j' := 2) rfl fo168_0 rfl) rfl rfl rfl ?_
 refine o_pure (p_load (i := 2) (v := .slice a4 (b.old.take (0 : Int).toNat ++ ([key]) ++ b.old.drop (0 : Int).toNat).length c5) rfl rfl sh22 rfl) rfl rfl rfl ?_
 refine o_mv rfl rfl ?_
 refine o_pure (p_sliceL (L := (b.old.take (0 : Int).toNat ++ ([key]) ++ b.old.drop (0 : Int).toNat)) (T := tInt) (l := (min ((b.old.take (0 : Int).toNat ++ ([key]) ++ b.old.drop (0 : Int).toNat).length : Int) b.second)) rfl rfl Try.underlying22 sz3 (by omega) (by omega) (rd_own (i := 0) rfl)) rfl rfl rfl ?_
 refine o_callM rfl (clone_Int_ok ((b.old.take (0 : Int).toNat ++ ([key]) ++ b.old.drop (0 : Int).toNat).drop ((min ((b.old.take (0 : Int).toNat ++ ([key]) ++ b.old.drop (0 : Int).toNat).length : Int) b.second).toNat)) (sa a4 c5 ((min ((b.old.take (0 : Int).toNat ++ ([key]) ++ b.old.drop (0 : Int).toNat).length : Int) b.second).toNat) tInt.k) (c5 - (min ((b.old.take (0 : Int).toNat ++ ([key]) ++ b.old.drop (0 : Int).toNat).length : Int) b.second).toNat) (by first | assumption | omega | (simp only [List.length_append, List.length_take, List.length_drop, List.length_cons, List.length_nil]; omega))) hf80 (fun w hw => (rd_dropC (l := (min ((b.old.take (0 : Int).toNat ++ ([key]) ++ b.old.drop (0 : Int).toNat).length : Int) b.second).toNat) (rd_own (i := 0) rfl) (by omega)) w hw) rfl (fun _ _ _ _ ha hA => SlO.agree ha hA) ?_
 rintro ⟨a10, c11⟩ S8
 refine o_know (fun w hw => own_len (i := 0) (T := tInt) hw rfl) (fun hlr12 => ?_)
 refine o_as rfl rfl ?_
 refine o_nil (q_then (c_seq (c_region ?_)))
 refine o_mv rfl rfl ?_
 refine o_mv rfl rfl ?_
 refine o_pure (p_nilCheck rfl) rfl rfl rfl ?_
 refine o_pure (p_fieldAddr (B := Bb) (j := 2) (j' := 2) rfl fo168_0 rfl) rfl rfl rfl ?_
 refine o_pure (p_load (i := 3) (v := .slice a4 (b.old.take (0 : Int).toNat ++ ([key]) ++ b.old.drop (0 : Int).toNat).length c5) rfl rfl sh22 rfl) rfl rfl rfl ?_
 refine o_mv rfl rfl ?_
 refine o_pure (p_sliceH (L := (b.old.take (0 : Int).toNat ++ ([key]) ++ b.old.drop (0 : Int).toNat)) (T := tInt) (h := (min ((b.old.take (0 : Int).toNat ++ ([key]) ++ b.old.drop (0 : Int).toNat).length : Int) b.second)) rfl rfl Try.underlying22 sz3 (by omega) (by omega) (rd_own (i := 1) rfl)) rfl rfl rfl ?_
 refine o_pure (p_nilCheck rfl) rfl rfl rfl ?_
 refine o_pure (p_fieldAddr (B := Bb) (j := 2) (j' := 2) rfl fo168_0 rfl) rfl rfl rfl ?_
 refine o_shrinkC (i := 1) (hi := (min ((b.old.take (0 : Int).toNat ++ ([key]) ++ b.old.drop (0 : Int).toNat).length : Int) b.second).toNat) (T := tInt) rfl (by omega) ?_
 refine o_store (i := 3) (v := .slice a4 ((b.old.take (0 : Int).toNat ++ ([key]) ++ b.old.drop (0 : Int).toNat).take ((min ((b.old.take (0 : Int).toNat ++ ([key]) ++ b.old.drop (0 : Int).toNat).length : Int) b.second).toNat)).length c5) (cs' := [.slice ab_0 b.young.length cb_0, .int .i64 b.first, .slice a4 ((b.old.take (0 : Int).toNat ++ ([key]) ++ b.old.drop (0 : Int).toNat).take ((min ((b.old.take (0 : Int).toNat ++ ([key]) ++ b.old.drop (0 : Int).toNat).length : Int) b.second).toNat)).length c5, .int .i64 b.second]) rfl rfl rfl sz22 rfl rfl rfl ?_
 refine o_nil (q_then (c_seq (c_region ?_)))
 refine o_mv rfl rfl ?_
 refine o_as rfl rfl ?_
 refine o_nil (q_then (c_ret ?_))
 have hr2 : (((b.old.take (0 : Int).toNat ++ ([key]) ++ b.old.drop (0 : Int).toNat).take ((min ((b.old.take (0 : Int).toNat ++ ([key]) ++ b.old.drop (0 : Int).toNat).length : Int) b.second).toNat)) : List Int) = (key :: b.old).take b.second.toNat := by
  first | (rw [Seg.min_len]; exact Seg.cut_a _ _ _) | (rw [Seg.min_len]; exact Seg.cut_b _ _ _)
 have hr4 : (((b.old.take (0 : Int).toNat ++ ([key]) ++ b.old.drop (0 : Int).toNat).drop ((min ((b.old.take (0 : Int).toNat ++ ([key]) ++ b.old.drop (0 : Int).toNat).length : Int) b.second).toNat)) : List Int) = ((key :: b.old).drop b.second.toNat) := by
  first | (rw [Seg.min_len]; exact Seg.cut_a _ _ _) | (rw [Seg.min_len]; exact Seg.cut_b _ _ _)
 refine q_endX (p := (ab_0, cb_0, Sb_0, a4, c5, S6, a10, c11, S8)) (rt1 rfl (r_tmp rfl)) ?_ (fun w hw => ?_)
 ·exact (by have hcc := congr (congrArg (fun (y2 : List Int) (y4 : List Int) => (.slice a10 y4.length c11 : Value)) hr2) hr4; exact hcc)
 ·have h2 := hw.pick (H' := [outer w0 [box Bb [.slice ab_0 b.young.length cb_0, .int .i64 b.first, .slice ab_1 b.old.length cb_1, .int .i64 b.second] 170, own tInt Sb_0 ab_0 cb_0 b.young, own tInt Sb_1 ab_1 cb_1 b.old], box Bb [.slice ab_0 b.young.length cb_0, .int .i64 b.first, .slice a4 ((b.old.take (0 : Int).toNat ++ ([key]) ++ b.old.drop (0 : Int).toNat).take ((min ((b.old.take (0 : Int).toNat ++ ([key]) ++ b.old.drop (0 : Int).toNat).length : Int) b.second).toNat)).length c5, .int .i64 b.second] 170, own tInt Sb_0 ab_0 cb_0 b.young, own tInt S6 a4 c5 ((b.old.take (0 : Int).toNat ++ ([key]) ++ b.old.drop (0 : Int).toNat).take ((min ((b.old.take (0 : Int).toNat ++ ([key]) ++ b.old.drop (0 : Int).toNat).length : Int) b.second).toNat)), own tInt S8 a10 c11 ((b.old.take (0 : Int).toNat ++ ([key]) ++ b.old.drop (0 : Int).toNat).drop ((min ((b.old.take (0 : Int).toNat ++ ([key]) ++ b.old.drop (0 : Int).toNat).length : Int) b.second).toNat))]) [2, 3, 4, 1, 0] (by decide) rfl
  exact Eq.mp (congrArg (fun z => HeapIs w0 ((outer w0 [box Bb [.slice ab_0 b.young.length cb_0, .int .i64 b.first, .slice ab_1 b.old.length cb_1, .int .i64 b.second] 170, own tInt Sb_0 ab_0 cb_0 b.young, own tInt Sb_1 ab_1 cb_1 b.old]) :: z) w) ((by have hcc := congr (congrArg (fun (y2 : List Int) (y4 : List Int) => ([box Bb [.slice ab_0 b.young.length cb_0, .int .i64 b.first, .slice a4 y2.length c5, .int .i64 b.second] 170, own tInt Sb_0 ab_0 cb_0 b.young, own tInt S6 a4 c5 y2, own tInt S8 a10 c11 y4] : List Ent)) hr2) hr4; exact hcc))) h2

set_option maxHeartbeats 8000000 in
set_option maxRecDepth 100000 in
theorem sowned_ok (h : DHalls) (ah_0 : Option Addr) (ch_0 : Nat) (ah_1 : Option Addr) (ch_1 : Nat) (hy1 : h.young.length ≤ 1000 ∧ h.old.length ≤ 1000) : FnX Try.prog 98 [.agg #[.int .i64 h.first, .int .i64 h.second, .slice ah_0 h.young.length ch_0, .slice ah_1 h.old.length ch_1]] [] (fun w => SlR tInt (outer w []).S w ah_0 ch_0 h.young ∧ SlR tInt (outer w []).S w ah_1 ch_1 h.old) (Nat × Option Addr × Nat × (Nat → Prop) × Option Addr × Nat × (Nat → Prop)) (fun p => .pointer (some ⟨p.1, 0, none⟩)) (fun p => [box p.1 [.slice p.2.1 h.young.length p.2.2.1, .int .i64 h.first, .slice p.2.2.2.2.1 h.old.length p.2.2.2.2.2.1, .int .i64 h.second] 170, own tInt p.2.2.2.1 p.2.1 p.2.2.1 h.young, own tInt p.2.2.2.2.2.2 p.2.2.2.2.1 p.2.2.2.2.2.1 h.old]) := by
 refine fnX (nt := 17) (F0 := [(0, .agg #[.int .i64 h.first, .int .i64 h.second, .slice ah_0 h.young.length ch_0, .slice ah_1 h.old.length ch_1])]) Try.func98 rfl Try.ntmps98 rfl rfl (fun w0 hpre => ?_)
 obtain ⟨hh_0, hh_1⟩ := hpre
 have hlhh_0 := hh_0.2.1
 have hlhh_1 := hh_1.2.1
 refine c_seq (c_region ?_)
 refine o_box (v := .agg #[.int .i64 h.first, .int .i64 h.second, .slice ah_0 h.young.length ch_0, .slice ah_1 h.old.length ch_1]) rfl rfl (fun B1 => ?_)
 refine o_as rfl rfl ?_
 refine o_nil (q_then (c_seq ?_))
 refine c_held hmix [box B1 [.int .i64 h.first, .int .i64 h.second, .slice ah_0 h.young.length ch_0, .slice ah_1 h.old.length ch_1] 104, outer w0 []] rfl rfl ?_
 refine h_t0 (i := 0) (ls := #[true, false, false, false, false, false, false, false, false, false, false, false, false, false, false]) rfl (p_fieldAddr (B := B1) (j := 0) (j' := 2) rfl fo104_2 rfl) ?_
 refine h_t0 (i := 1) (ls := #[true, true, false, false, false, false, false, false, false, false, false, false, false, false, false]) rfl (p_load (i := 0) (v := .slice ah_0 h.young.length ch_0) rfl rfl sh22 rfl) ?_
 refine h_t0 (i := 3) (ls := #[true, true, false, true, false, false, false, false, false, false, false, false, false, false, false]) rfl (p_fieldAddr (B := B1) (j := 0) (j' := 0) rfl fo104_0 rfl) ?_
 refine h_t0 (i := 4) (ls := #[true, true, false, true, true, false, false, false, false, false, false, false, false, false, false]) rfl (p_load (i := 0) (v := .int .i64 h.first) rfl rfl sh3 rfl) ?_
 refine h_t0 (i := 6) (ls := #[true, true, false, true, true, false, true, false, false, false, false, false, false, false, false]) rfl (p_fieldAddr (B := B1) (j := 0) (j' := 3) rfl fo104_3 rfl) ?_
 refine h_t0 (i := 7) (ls := #[true, true, false, true, true, false, true, true, false, false, false, false, false, false, false]) rfl (p_load (i := 0) (v := .slice ah_1 h.old.length ch_1) rfl rfl sh22 rfl) ?_
 refine h_t0 (i := 9) (ls := #[true, true, false, true, true, false, true, true, false, true, false, false, false, false, false]) rfl (p_fieldAddr (B := B1) (j := 0) (j' := 1) rfl fo104_1 rfl) ?_
 refine h_t0 (i := 10) (ls := #[true, true, false, true, true, false, true, true, false, true, true, false, false, false, false]) rfl (p_load (i := 0) (v := .int .i64 h.second) rfl rfl sh3 rfl) ?_
 refine h_one (i := 2) (ls := #[true, true, true, true, true, false, true, true, false, true, true, false, false, false, false]) (by kernel_rfl) rfl rfl ?_
 refine o_callM rfl (clone_Int_ok h.young ah_0 ch_0 (by first | assumption | omega | (simp only [List.length_append, List.length_take, List.length_drop, List.length_cons, List.length_nil]; omega))) hf80 (fun w hw => (rd_outer (i := 1) rfl hh_0) w hw) rfl (fun _ _ _ _ ha hA => SlO.agree ha hA) ?_
 rintro ⟨a2_2, c2_2⟩ S2_2
 refine o_know (fun w hw => own_len (i := 0) (T := tInt) hw rfl) (fun hlr2_2 => ?_)
 refine o_nil ?_
 refine h_next (fun _ hw => HeapIs.drop hw (List.Sublist.cons _ (List.Sublist.cons_cons _ (List.Sublist.cons_cons _ (List.Sublist.slnil))))) ?_
 refine h_tk (i := 5) (ls := #[true, true, true, true, true, true, true, true, false, true, true, false, false, false, false]) rfl (p_build (cells := [.slice a2_2 h.young.length c2_2, .int .i64 h.first]) fp168 ze168 rfl rfl) (fun _ hw => HeapIs.drop hw (List.Sublist.cons _ (List.Sublist.cons_cons _ (List.Sublist.cons_cons _ (List.Sublist.slnil))))) ?_
 refine h_one (i := 8) (ls := #[true, true, true, true, true, true, true, true, true, true, true, false, false, false, false]) (by kernel_rfl) rfl rfl ?_
 refine o_callM rfl (clone_Int_ok h.old ah_1 ch_1 (by first | assumption | omega | (simp only [List.length_append, List.length_take, List.length_drop, List.length_cons, List.length_nil]; omega))) hf80 (fun w hw => (rd_outer (i := 2) rfl hh_1) w hw) rfl (fun _ _ _ _ ha hA => SlO.agree ha hA) ?_
 rintro ⟨a2_8, c2_8⟩ S2_8
 refine o_know (fun w hw => own_len (i := 0) (T := tInt) hw rfl) (fun hlr2_8 => ?_)
 refine o_nil ?_
 refine h_next (fun _ hw => HeapIs.drop hw (List.Sublist.cons _ (List.Sublist.cons _ (List.Sublist.cons_cons _ (List.Sublist.cons_cons _ (List.Sublist.slnil)))))) ?_
 refine h_tk (i := 11) (ls := #[true, true, true, true, true, true, true, true, true, true, true, true, false, false, false]) rfl (p_build (cells := [.slice a2_8 h.old.length c2_8, .int .i64 h.second]) fp168 ze168 rfl rfl) (fun _ hw => HeapIs.drop hw (List.Sublist.cons _ (List.Sublist.cons _ (List.Sublist.cons_cons _ (List.Sublist.cons_cons _ (List.Sublist.slnil)))))) ?_
 refine h_tk (i := 12) (ls := #[true, true, true, true, true, true, true, true, true, true, true, true, true, false, false]) rfl (p_build (cells := [.slice a2_2 h.young.length c2_2, .int .i64 h.first, .slice a2_8 h.old.length c2_8, .int .i64 h.second]) fp170 ze170 rfl rfl) (fun _ hw => HeapIs.drop hw (List.Sublist.cons _ (List.Sublist.cons _ (List.Sublist.cons_cons _ (List.Sublist.cons_cons _ (List.Sublist.slnil)))))) ?_
 refine h_one (i := 13) (ls := #[true, true, true, true, true, true, true, true, true, true, true, true, true, true, false]) (by kernel_rfl) rfl rfl ?_
 refine o_box (v := .agg #[.slice a2_2 h.young.length c2_2, .int .i64 h.first, .slice a2_8 h.old.length c2_8, .int .i64 h.second]) rfl rfl (fun B2_13 => ?_)
 refine o_nil ?_
 refine h_next (fun _ hw => HeapIs.drop hw (List.Sublist.cons _ (List.Sublist.cons _ (List.Sublist.cons _ (List.Sublist.cons_cons _ (List.Sublist.cons_cons _ (List.Sublist.slnil))))))) ?_
 refine h_tk (i := 14) (ls := #[true, true, true, true, true, true, true, true, true, true, true, true, true, true, true]) rfl (p_assign (v := .pointer (some ⟨B2_13, 0, none⟩)) rfl) (fun _ hw => HeapIs.drop hw (List.Sublist.cons _ (List.Sublist.cons _ (List.Sublist.cons _ (List.Sublist.cons_cons _ (List.Sublist.cons_cons _ (List.Sublist.slnil))))))) ?_
 refine h_done (by kernel_rfl) ?_
 refine q_then (c_ret ?_)
 refine q_endX (p := (B2_13, a2_2, c2_2, S2_2, a2_8, c2_8, S2_8)) (rt1 rfl (r_tmp rfl)) ?_ (fun w hw => ?_)
 ·exact rfl
 ·have h2 := hw.pick (H' := [outer w0 [], box B2_13 [.slice a2_2 h.young.length c2_2, .int .i64 h.first, .slice a2_8 h.old.length c2_8, .int .i64 h.second] 170, own tInt S2_2 a2_2 c2_2 h.young, own tInt S2_8 a2_8 c2_8 h.old]) [4, 0, 2, 1] (by decide) rfl
  exact Eq.mp (congrArg (fun z => HeapIs w0 ((outer w0 []) :: z) w) (rfl)) h2

set_option maxHeartbeats 8000000 in
set_option maxRecDepth 100000 in
theorem shalls_ok (b : DHalls) (Bb : Nat) (ab_0 : Option Addr) (cb_0 : Nat) (Sb_0 : Nat → Prop) (ab_1 : Option Addr) (cb_1 : Nat) (Sb_1 : Nat → Prop) : FnX Try.prog 100 [.pointer (some ⟨Bb, 0, none⟩)] [box Bb [.slice ab_0 b.young.length cb_0, .int .i64 b.first, .slice ab_1 b.old.length cb_1, .int .i64 b.second] 170, own tInt Sb_0 ab_0 cb_0 b.young, own tInt Sb_1 ab_1 cb_1 b.old] (fun _ => True) (Option Addr × Nat × (Nat → Prop) × Option Addr × Nat × (Nat → Prop)) (fun p => .agg #[.int .i64 b.first, .int .i64 b.second, .slice p.1 b.young.length p.2.1, .slice p.2.2.2.1 b.old.length p.2.2.2.2.1]) (fun p => [own tInt p.2.2.1 p.1 p.2.1 b.young, own tInt p.2.2.2.2.2 p.2.2.2.1 p.2.2.2.2.1 b.old]) := by
 refine fnX (nt := 24) (F0 := [(0, .pointer (some ⟨Bb, 0, none⟩))]) Try.func100 rfl Try.ntmps100 rfl rfl (fun w0 hpre => ?_)
 refine c_know (fun w hw => own_len (i := 2) (T := tInt) hw rfl) (fun hlown_b_0 => ?_)
 obtain ⟨hcown_b_0, hlown_b_0⟩ := hlown_b_0
 refine c_know (fun w hw => own_len (i := 3) (T := tInt) hw rfl) (fun hlown_b_1 => ?_)
 obtain ⟨hcown_b_1, hlown_b_1⟩ := hlown_b_1
 refine c_seq (c_region ?_)
 refine o_alloc ze104 rfl (fun B1 => ?_)
 refine o_nil (q_then (c_seq ?_))
 refine c_held hmix [outer w0 [box Bb [.slice ab_0 b.young.length cb_0, .int .i64 b.first, .slice ab_1 b.old.length cb_1, .int .i64 b.second] 170, own tInt Sb_0 ab_0 cb_0 b.young, own tInt Sb_1 ab_1 cb_1 b.old], box Bb [.slice ab_0 b.young.length cb_0, .int .i64 b.first, .slice ab_1 b.old.length cb_1, .int .i64 b.second] 170, own tInt Sb_0 ab_0 cb_0 b.young, own tInt Sb_1 ab_1 cb_1 b.old] rfl rfl ?_
 refine h_tk (i := 0) (ls := #[true, false, false, false, false, false, false, false, false, false, false, false, false, false, false, false, false, false, false, false, false, false]) rfl (p_move rfl) (fun _ hw => HeapIs.drop hw (List.Sublist.cons _ (List.Sublist.cons_cons _ (List.Sublist.cons_cons _ (List.Sublist.cons_cons _ (List.Sublist.cons_cons _ (List.Sublist.slnil))))))) ?_
 refine h_tk (i := 1) (ls := #[true, true, false, false, false, false, false, false, false, false, false, false, false, false, false, false, false, false, false, false, false, false]) rfl (p_nilCheck rfl) (fun _ hw => HeapIs.drop hw (List.Sublist.cons _ (List.Sublist.cons_cons _ (List.Sublist.cons_cons _ (List.Sublist.cons_cons _ (List.Sublist.cons_cons _ (List.Sublist.slnil))))))) ?_
 refine h_tk (i := 2) (ls := #[true, true, true, false, false, false, false, false, false, false, false, false, false, false, false, false, false, false, false, false, false, false]) rfl (p_fieldAddr (B := Bb) (j := 0) (j' := 0) rfl fo170_0 rfl) (fun _ hw => HeapIs.drop hw (List.Sublist.cons _ (List.Sublist.cons_cons _ (List.Sublist.cons_cons _ (List.Sublist.cons_cons _ (List.Sublist.cons_cons _ (List.Sublist.slnil))))))) ?_
 refine h_tk (i := 3) (ls := #[true, true, true, true, false, false, false, false, false, false, false, false, false, false, false, false, false, false, false, false, false, false]) rfl (p_fieldAddr (B := Bb) (j := 0) (j' := 1) rfl fo168_1 rfl) (fun _ hw => HeapIs.drop hw (List.Sublist.cons _ (List.Sublist.cons_cons _ (List.Sublist.cons_cons _ (List.Sublist.cons_cons _ (List.Sublist.cons_cons _ (List.Sublist.slnil))))))) ?_
 refine h_tk (i := 4) (ls := #[true, true, true, true, true, false, false, false, false, false, false, false, false, false, false, false, false, false, false, false, false, false]) rfl (p_load (i := 1) (v := .int .i64 b.first) rfl rfl sh3 rfl) (fun _ hw => HeapIs.drop hw (List.Sublist.cons _ (List.Sublist.cons_cons _ (List.Sublist.cons_cons _ (List.Sublist.cons_cons _ (List.Sublist.cons_cons _ (List.Sublist.slnil))))))) ?_
 refine h_tk (i := 5) (ls := #[true, true, true, true, true, true, false, false, false, false, false, false, false, false, false, false, false, false, false, false, false, false]) rfl (p_move rfl) (fun _ hw => HeapIs.drop hw (List.Sublist.cons _ (List.Sublist.cons_cons _ (List.Sublist.cons_cons _ (List.Sublist.cons_cons _ (List.Sublist.cons_cons _ (List.Sublist.slnil))))))) ?_
 refine h_tk (i := 6) (ls := #[true, true, true, true, true, true, true, false, false, false, false, false, false, false, false, false, false, false, false, false, false, false]) rfl (p_nilCheck rfl) (fun _ hw => HeapIs.drop hw (List.Sublist.cons _ (List.Sublist.cons_cons _ (List.Sublist.cons_cons _ (List.Sublist.cons_cons _ (List.Sublist.cons_cons _ (List.Sublist.slnil))))))) ?_
 refine h_tk (i := 7) (ls := #[true, true, true, true, true, true, true, true, false, false, false, false, false, false, false, false, false, false, false, false, false, false]) rfl (p_fieldAddr (B := Bb) (j := 0) (j' := 2) rfl fo170_1 rfl) (fun _ hw => HeapIs.drop hw (List.Sublist.cons _ (List.Sublist.cons_cons _ (List.Sublist.cons_cons _ (List.Sublist.cons_cons _ (List.Sublist.cons_cons _ (List.Sublist.slnil))))))) ?_
 refine h_tk (i := 8) (ls := #[true, true, true, true, true, true, true, true, true, false, false, false, false, false, false, false, false, false, false, false, false, false]) rfl (p_fieldAddr (B := Bb) (j := 2) (j' := 3) rfl fo168_1 rfl) (fun _ hw => HeapIs.drop hw (List.Sublist.cons _ (List.Sublist.cons_cons _ (List.Sublist.cons_cons _ (List.Sublist.cons_cons _ (List.Sublist.cons_cons _ (List.Sublist.slnil))))))) ?_
 refine h_tk (i := 9) (ls := #[true, true, true, true, true, true, true, true, true, true, false, false, false, false, false, false, false, false, false, false, false, false]) rfl (p_load (i := 1) (v := .int .i64 b.second) rfl rfl sh3 rfl) (fun _ hw => HeapIs.drop hw (List.Sublist.cons _ (List.Sublist.cons_cons _ (List.Sublist.cons_cons _ (List.Sublist.cons_cons _ (List.Sublist.cons_cons _ (List.Sublist.slnil))))))) ?_
 refine h_tk (i := 10) (ls := #[true, true, true, true, true, true, true, true, true, true, true, false, false, false, false, false, false, false, false, false, false, false]) rfl (p_move rfl) (fun _ hw => HeapIs.drop hw (List.Sublist.cons _ (List.Sublist.cons_cons _ (List.Sublist.cons_cons _ (List.Sublist.cons_cons _ (List.Sublist.cons_cons _ (List.Sublist.slnil))))))) ?_
 refine h_tk (i := 11) (ls := #[true, true, true, true, true, true, true, true, true, true, true, true, false, false, false, false, false, false, false, false, false, false]) rfl (p_nilCheck rfl) (fun _ hw => HeapIs.drop hw (List.Sublist.cons _ (List.Sublist.cons_cons _ (List.Sublist.cons_cons _ (List.Sublist.cons_cons _ (List.Sublist.cons_cons _ (List.Sublist.slnil))))))) ?_
 refine h_tk (i := 12) (ls := #[true, true, true, true, true, true, true, true, true, true, true, true, true, false, false, false, false, false, false, false, false, false]) rfl (p_fieldAddr (B := Bb) (j := 0) (j' := 0) rfl fo170_0 rfl) (fun _ hw => HeapIs.drop hw (List.Sublist.cons _ (List.Sublist.cons_cons _ (List.Sublist.cons_cons _ (List.Sublist.cons_cons _ (List.Sublist.cons_cons _ (List.Sublist.slnil))))))) ?_
 refine h_tk (i := 13) (ls := #[true, true, true, true, true, true, true, true, true, true, true, true, true, true, false, false, false, false, false, false, false, false]) rfl (p_fieldAddr (B := Bb) (j := 0) (j' := 0) rfl fo168_0 rfl) (fun _ hw => HeapIs.drop hw (List.Sublist.cons _ (List.Sublist.cons_cons _ (List.Sublist.cons_cons _ (List.Sublist.cons_cons _ (List.Sublist.cons_cons _ (List.Sublist.slnil))))))) ?_
 refine h_tk (i := 14) (ls := #[true, true, true, true, true, true, true, true, true, true, true, true, true, true, true, false, false, false, false, false, false, false]) rfl (p_load (i := 1) (v := .slice ab_0 b.young.length cb_0) rfl rfl sh22 rfl) (fun _ hw => HeapIs.drop hw (List.Sublist.cons _ (List.Sublist.cons_cons _ (List.Sublist.cons_cons _ (List.Sublist.cons_cons _ (List.Sublist.cons_cons _ (List.Sublist.slnil))))))) ?_
 refine h_tk (i := 15) (ls := #[true, true, true, true, true, true, true, true, true, true, true, true, true, true, true, true, false, false, false, false, false, false]) rfl (p_move rfl) (fun _ hw => HeapIs.drop hw (List.Sublist.cons _ (List.Sublist.cons_cons _ (List.Sublist.cons_cons _ (List.Sublist.cons_cons _ (List.Sublist.cons_cons _ (List.Sublist.slnil))))))) ?_
 refine h_tk (i := 16) (ls := #[true, true, true, true, true, true, true, true, true, true, true, true, true, true, true, true, true, false, false, false, false, false]) rfl (p_nilCheck rfl) (fun _ hw => HeapIs.drop hw (List.Sublist.cons _ (List.Sublist.cons_cons _ (List.Sublist.cons_cons _ (List.Sublist.cons_cons _ (List.Sublist.cons_cons _ (List.Sublist.slnil))))))) ?_
 refine h_tk (i := 17) (ls := #[true, true, true, true, true, true, true, true, true, true, true, true, true, true, true, true, true, true, false, false, false, false]) rfl (p_fieldAddr (B := Bb) (j := 0) (j' := 2) rfl fo170_1 rfl) (fun _ hw => HeapIs.drop hw (List.Sublist.cons _ (List.Sublist.cons_cons _ (List.Sublist.cons_cons _ (List.Sublist.cons_cons _ (List.Sublist.cons_cons _ (List.Sublist.slnil))))))) ?_
 refine h_tk (i := 18) (ls := #[true, true, true, true, true, true, true, true, true, true, true, true, true, true, true, true, true, true, true, false, false, false]) rfl (p_fieldAddr (B := Bb) (j := 2) (j' := 2) rfl fo168_0 rfl) (fun _ hw => HeapIs.drop hw (List.Sublist.cons _ (List.Sublist.cons_cons _ (List.Sublist.cons_cons _ (List.Sublist.cons_cons _ (List.Sublist.cons_cons _ (List.Sublist.slnil))))))) ?_
 refine h_tk (i := 19) (ls := #[true, true, true, true, true, true, true, true, true, true, true, true, true, true, true, true, true, true, true, true, false, false]) rfl (p_load (i := 1) (v := .slice ab_1 b.old.length cb_1) rfl rfl sh22 rfl) (fun _ hw => HeapIs.drop hw (List.Sublist.cons _ (List.Sublist.cons_cons _ (List.Sublist.cons_cons _ (List.Sublist.cons_cons _ (List.Sublist.cons_cons _ (List.Sublist.slnil))))))) ?_
 refine h_tk (i := 20) (ls := #[true, true, true, true, true, true, true, true, true, true, true, true, true, true, true, true, true, true, true, true, true, false]) rfl (p_build (cells := [.int .i64 b.first, .int .i64 b.second, .slice ab_0 b.young.length cb_0, .slice ab_1 b.old.length cb_1]) fp104 ze104 rfl rfl) (fun _ hw => HeapIs.drop hw (List.Sublist.cons _ (List.Sublist.cons_cons _ (List.Sublist.cons_cons _ (List.Sublist.cons_cons _ (List.Sublist.cons_cons _ (List.Sublist.slnil))))))) ?_
 refine h_one (i := 21) (ls := #[true, true, true, true, true, true, true, true, true, true, true, true, true, true, true, true, true, true, true, true, true, true]) (by kernel_rfl) rfl rfl ?_
 refine o_storeN (i := 0) (vs := [.int .i64 b.first, .int .i64 b.second, .slice ab_0 b.young.length cb_0, .slice ab_1 b.old.length cb_1]) (cs' := [.int .i64 b.first, .int .i64 b.second, .slice ab_0 b.young.length cb_0, .slice ab_1 b.old.length cb_1]) rfl rfl rfl sz104 rfl rfl rfl rfl ?_
 refine o_nil ?_
 refine h_next (fun _ hw => HeapIs.drop hw (List.Sublist.cons _ (List.Sublist.cons_cons _ (List.Sublist.cons_cons _ (List.Sublist.cons_cons _ (List.Sublist.cons_cons _ (List.Sublist.slnil))))))) ?_
 refine h_done (by kernel_rfl) ?_
 refine q_then (c_ret ?_)
 refine q_endX (p := (ab_0, cb_0, Sb_0, ab_1, cb_1, Sb_1)) (rt1 rfl (r_cell (i := 0) rfl rfl sh104 rfl)) ?_ (fun w hw => ?_)
 ·exact rfl
 ·have h2 := hw.pick (H' := [outer w0 [box Bb [.slice ab_0 b.young.length cb_0, .int .i64 b.first, .slice ab_1 b.old.length cb_1, .int .i64 b.second] 170, own tInt Sb_0 ab_0 cb_0 b.young, own tInt Sb_1 ab_1 cb_1 b.old], own tInt Sb_0 ab_0 cb_0 b.young, own tInt Sb_1 ab_1 cb_1 b.old]) [1, 3, 4] (by decide) rfl
  exact Eq.mp (congrArg (fun z => HeapIs w0 ((outer w0 [box Bb [.slice ab_0 b.young.length cb_0, .int .i64 b.first, .slice ab_1 b.old.length cb_1, .int .i64 b.second] 170, own tInt Sb_0 ab_0 cb_0 b.young, own tInt Sb_1 ab_1 cb_1 b.old]) :: z) w) (rfl)) h2

set_option maxHeartbeats 8000000 in
set_option maxRecDepth 100000 in
theorem stouch_ok (b : DHalls) (Bb : Nat) (ab_0 : Option Addr) (cb_0 : Nat) (Sb_0 : Nat → Prop) (ab_1 : Option Addr) (cb_1 : Nat) (Sb_1 : Nat → Prop) (key : Int) (hy1 : Seg.Ok b) : FnX Try.prog 99 [.pointer (some ⟨Bb, 0, none⟩), .int .i64 key] [box Bb [.slice ab_0 b.young.length cb_0, .int .i64 b.first, .slice ab_1 b.old.length cb_1, .int .i64 b.second] 170, own tInt Sb_0 ab_0 cb_0 b.young, own tInt Sb_1 ab_1 cb_1 b.old] (fun _ => True) (Option Addr × Nat × (Nat → Prop) × Option Addr × Nat × (Nat → Prop) × Option Addr × Nat × (Nat → Prop)) (fun p => .tuple #[.bool ((Seg.touch b key).2.1), .slice p.2.2.2.2.2.2.1 ((Seg.touch b key).2.2).length p.2.2.2.2.2.2.2.1]) (fun p => [box Bb [.slice p.1 (((Seg.touch b key).1).young).length p.2.1, .int .i64 (((Seg.touch b key).1).first), .slice p.2.2.2.1 (((Seg.touch b key).1).old).length p.2.2.2.2.1, .int .i64 (((Seg.touch b key).1).second)] 170, own tInt p.2.2.1 p.1 p.2.1 (((Seg.touch b key).1).young), own tInt p.2.2.2.2.2.1 p.2.2.2.1 p.2.2.2.2.1 (((Seg.touch b key).1).old), own tInt p.2.2.2.2.2.2.2.2 p.2.2.2.2.2.2.1 p.2.2.2.2.2.2.2.1 ((Seg.touch b key).2.2)]) := by
 refine fnX (nt := 28) (F0 := [(0, .pointer (some ⟨Bb, 0, none⟩)), (1, .int .i64 key)]) Try.func99 rfl Try.ntmps99 rfl rfl (fun w0 hpre => ?_)
 refine c_know (fun w hw => own_len (i := 2) (T := tInt) hw rfl) (fun hlown_b_0 => ?_)
 obtain ⟨hcown_b_0, hlown_b_0⟩ := hlown_b_0
 refine c_know (fun w hw => own_len (i := 3) (T := tInt) hw rfl) (fun hlown_b_1 => ?_)
 obtain ⟨hcown_b_1, hlown_b_1⟩ := hlown_b_1
 have hfr := hy1.first
 have hse := hy1.second
 have hl1 := hy1.len1
 have hl2 := hy1.len2
 have he1 := List.length_erase_le (a := key) (l := b.young)
 have he2 := List.length_erase_le (a := key) (l := b.old)
 refine c_seq (c_region ?_)
 refine o_as rfl rfl ?_
 refine o_as rfl rfl ?_
 refine o_nil (q_then (c_seq (c_seq (c_region ?_))))
 refine o_mv rfl rfl ?_
 refine o_pure (p_nilCheck rfl) rfl rfl rfl ?_
 refine o_pure (p_fieldAddr (B := Bb) (j := 0) (j' := 2) rfl fo170_1 rfl) rfl rfl rfl ?_
 refine o_mv rfl rfl ?_
 refine o_pick (H' := [box Bb [.slice ab_0 b.young.length cb_0, .int .i64 b.first, .slice ab_1 b.old.length cb_1, .int .i64 b.second] 170, own tInt Sb_0 ab_0 cb_0 b.young, own tInt Sb_1 ab_1 cb_1 b.old, outer w0 [box Bb [.slice ab_0 b.young.length cb_0, .int .i64 b.first, .slice ab_1 b.old.length cb_1, .int .i64 b.second] 170, own tInt Sb_0 ab_0 cb_0 b.young, own tInt Sb_1 ab_1 cb_1 b.old]]) [1, 2, 3, 0] (by decide) rfl ?_
 refine o_callX (pre := [box Bb [.slice ab_0 b.young.length cb_0, .int .i64 b.first, .slice ab_1 b.old.length cb_1, .int .i64 b.second] 170, own tInt Sb_0 ab_0 cb_0 b.young, own tInt Sb_1 ab_1 cb_1 b.old]) (R := [outer w0 [box Bb [.slice ab_0 b.young.length cb_0, .int .i64 b.first, .slice ab_1 b.old.length cb_1, .int .i64 b.second] 170, own tInt Sb_0 ab_0 cb_0 b.young, own tInt Sb_1 ab_1 cb_1 b.old]]) rfl (leave_old_ok b Bb ab_0 cb_0 Sb_0 ab_1 cb_1 Sb_1 key) hf130 rfl (fun _ _ => trivial) rfl ?_
 rintro ⟨a1, c2, S3, a4, c5, S6⟩
 refine o_asH (H' := [box Bb [.slice a1 b.young.length c2, .int .i64 b.first, .slice a4 (b.old.erase key).length c5, .int .i64 b.second] 170, own tInt S3 a1 c2 b.young, own tInt S6 a4 c5 (b.old.erase key), outer w0 [box Bb [.slice ab_0 b.young.length cb_0, .int .i64 b.first, .slice ab_1 b.old.length cb_1, .int .i64 b.second] 170, own tInt Sb_0 ab_0 cb_0 b.young, own tInt Sb_1 ab_1 cb_1 b.old]]) rfl ?_
 refine o_mv rfl rfl ?_
 rcases Bool.eq_false_or_eq_true ((decide (key ∈ b.old))) with hb9 | hb9
 ·rw [hb9]
  have ho : key ∈ b.old := by simpa using hb9
  refine o_guard_no rfl 11 rfl rfl rfl rfl rfl ?_
  refine o_guard_no rfl 11 rfl rfl rfl rfl rfl ?_
  refine o_guard_no rfl 11 rfl rfl rfl rfl rfl ?_
  refine o_guard_no rfl 11 rfl rfl rfl rfl rfl ?_
  refine o_guard_no rfl 11 rfl rfl rfl rfl rfl ?_
  refine o_pt rfl rfl rfl ?_
  refine o_nil (q_then ?_)
  refine c_true rfl ?_
  refine c_seq (c_region ?_)
  refine o_mv rfl rfl ?_
  refine o_pure (p_nilCheck rfl) rfl rfl rfl ?_
  refine o_pure (p_fieldAddr (B := Bb) (j := 0) (j' := 2) rfl fo170_1 rfl) rfl rfl rfl ?_
  refine o_mv rfl rfl ?_
  refine o_callX (pre := [box Bb [.slice a1 b.young.length c2, .int .i64 b.first, .slice a4 (b.old.erase key).length c5, .int .i64 b.second] 170, own tInt S3 a1 c2 b.young, own tInt S6 a4 c5 (b.old.erase key)]) (R := [outer w0 [box Bb [.slice ab_0 b.young.length cb_0, .int .i64 b.first, .slice ab_1 b.old.length cb_1, .int .i64 b.second] 170, own tInt Sb_0 ab_0 cb_0 b.young, own tInt Sb_1 ab_1 cb_1 b.old]]) rfl (enter_old_ok (⟨b.first, b.second, b.young, b.old.erase key⟩ : DHalls) Bb a1 c2 S3 a4 c5 S6 key (by first | omega | (dsimp only; omega))) hf131 rfl (fun _ _ => trivial) rfl ?_
  rintro ⟨a10, c11, S12, a13, c14, S15, a16, c17, S18⟩
  refine o_asH (H' := [box Bb [.slice a10 b.young.length c11, .int .i64 b.first, .slice a13 ((key :: (b.old.erase key)).take b.second.toNat).length c14, .int .i64 b.second] 170, own tInt S12 a10 c11 b.young, own tInt S15 a13 c14 ((key :: (b.old.erase key)).take b.second.toNat), own tInt S18 a16 c17 ((key :: (b.old.erase key)).drop b.second.toNat), outer w0 [box Bb [.slice ab_0 b.young.length cb_0, .int .i64 b.first, .slice ab_1 b.old.length cb_1, .int .i64 b.second] 170, own tInt Sb_0 ab_0 cb_0 b.young, own tInt Sb_1 ab_1 cb_1 b.old]]) rfl ?_
  refine o_as rfl rfl ?_
  refine o_as rfl rfl ?_
  refine o_nil (q_then (c_ret ?_))
  refine q_then_ret ?_
  have hr0 : (b.young : List Int) = ((Seg.touch b key).1).young := by
   first | (rw [Seg.touch_old ho hy1.once]; done) | (rw [Seg.touch_young ho hyy]; done) | (rw [Seg.touch_young ho hyy, List.erase_of_not_mem ho]; done) | (rw [Seg.touch_new ho hyy]; done) | (rw [Seg.touch_new ho hyy, List.erase_of_not_mem hyy]; done) | (rw [Seg.touch_new ho hyy, List.erase_of_not_mem ho]; done)
  have hr1 : (b.first : Int) = ((Seg.touch b key).1).first := by
   first | (rw [Seg.touch_old ho hy1.once]; done) | (rw [Seg.touch_young ho hyy]; done) | (rw [Seg.touch_young ho hyy, List.erase_of_not_mem ho]; done) | (rw [Seg.touch_new ho hyy]; done) | (rw [Seg.touch_new ho hyy, List.erase_of_not_mem hyy]; done) | (rw [Seg.touch_new ho hyy, List.erase_of_not_mem ho]; done)
  have hr2 : ((key :: (b.old.erase key)).take b.second.toNat : List Int) = ((Seg.touch b key).1).old := by
   first | (rw [Seg.touch_old ho hy1.once]; done) | (rw [Seg.touch_young ho hyy]; done) | (rw [Seg.touch_young ho hyy, List.erase_of_not_mem ho]; done) | (rw [Seg.touch_new ho hyy]; done) | (rw [Seg.touch_new ho hyy, List.erase_of_not_mem hyy]; done) | (rw [Seg.touch_new ho hyy, List.erase_of_not_mem ho]; done)
  have hr3 : (b.second : Int) = ((Seg.touch b key).1).second := by
   first | (rw [Seg.touch_old ho hy1.once]; done) | (rw [Seg.touch_young ho hyy]; done) | (rw [Seg.touch_young ho hyy, List.erase_of_not_mem ho]; done) | (rw [Seg.touch_new ho hyy]; done) | (rw [Seg.touch_new ho hyy, List.erase_of_not_mem hyy]; done) | (rw [Seg.touch_new ho hyy, List.erase_of_not_mem ho]; done)
  have hr4 : (true : Bool) = ((Seg.touch b key).2.1) := by
   first | (rw [Seg.touch_old ho hy1.once]; done) | (rw [Seg.touch_young ho hyy]; done) | (rw [Seg.touch_young ho hyy, List.erase_of_not_mem ho]; done) | (rw [Seg.touch_new ho hyy]; done) | (rw [Seg.touch_new ho hyy, List.erase_of_not_mem hyy]; done) | (rw [Seg.touch_new ho hyy, List.erase_of_not_mem ho]; done)
  have hr5 : (((key :: (b.old.erase key)).drop b.second.toNat) : List Int) = ((Seg.touch b key).2.2) := by
   first | (rw [Seg.touch_old ho hy1.once]; done) | (rw [Seg.touch_young ho hyy]; done) | (rw [Seg.touch_young ho hyy, List.erase_of_not_mem ho]; done) | (rw [Seg.touch_new ho hyy]; done) | (rw [Seg.touch_new ho hyy, List.erase_of_not_mem hyy]; done) | (rw [Seg.touch_new ho hyy, List.erase_of_not_mem ho]; done)
  refine q_endX (p := (a10, c11, S12, a13, c14, S15, a16, c17, S18)) (rt2 rfl (r_tmp rfl) (r_tmp rfl)) ?_ (fun w hw => ?_)
  ·exact (by have hcc := congr (congr (congr (congr (congr (congrArg (fun (y0 : List Int) (y1 : Int) (y2 : List Int) (y3 : Int) (y4 : Bool) (y5 : List Int) => (.tuple #[.bool y4, .slice a16 y5.length c17] : Value)) hr0) hr1) hr2) hr3) hr4) hr5; exact hcc)
  ·have h2 := hw.pick (H' := [outer w0 [box Bb [.slice ab_0 b.young.length cb_0, .int .i64 b.first, .slice ab_1 b.old.length cb_1, .int .i64 b.second] 170, own tInt Sb_0 ab_0 cb_0 b.young, own tInt Sb_1 ab_1 cb_1 b.old], box Bb [.slice a10 b.young.length c11, .int .i64 b.first, .slice a13 ((key :: (b.old.erase key)).take b.second.toNat).length c14, .int .i64 b.second] 170, own tInt S12 a10 c11 b.young, own tInt S15 a13 c14 ((key :: (b.old.erase key)).take b.second.toNat), own tInt S18 a16 c17 ((key :: (b.old.erase key)).drop b.second.toNat)]) [4, 0, 1, 2, 3] (by decide) rfl
   exact Eq.mp (congrArg (fun z => HeapIs w0 ((outer w0 [box Bb [.slice ab_0 b.young.length cb_0, .int .i64 b.first, .slice ab_1 b.old.length cb_1, .int .i64 b.second] 170, own tInt Sb_0 ab_0 cb_0 b.young, own tInt Sb_1 ab_1 cb_1 b.old]) :: z) w) ((by have hcc := congr (congr (congr (congr (congr (congrArg (fun (y0 : List Int) (y1 : Int) (y2 : List Int) (y3 : Int) (y4 : Bool) (y5 : List Int) => ([box Bb [.slice a10 y0.length c11, .int .i64 y1, .slice a13 y2.length c14, .int .i64 y3] 170, own tInt S12 a10 c11 y0, own tInt S15 a13 c14 y2, own tInt S18 a16 c17 y5] : List Ent)) hr0) hr1) hr2) hr3) hr4) hr5; exact hcc))) h2
 ·rw [hb9]
  have ho : key ∉ b.old := by simpa using hb9
  refine o_unguard 11 rfl rfl ?_
  refine o_mv rfl rfl ?_
  refine o_unguard 11 rfl rfl ?_
  refine o_pure (p_nilCheck rfl) rfl rfl rfl ?_
  refine o_unguard 11 rfl rfl ?_
  refine o_pure (p_fieldAddr (B := Bb) (j := 0) (j' := 0) rfl fo170_0 rfl) rfl rfl rfl ?_
  refine o_unguard 11 rfl rfl ?_
  refine o_mv rfl rfl ?_
  refine o_unguard 11 rfl rfl ?_
  refine o_callX (pre := [box Bb [.slice a1 b.young.length c2, .int .i64 b.first, .slice a4 (b.old.erase key).length c5, .int .i64 b.second] 170, own tInt S3 a1 c2 b.young, own tInt S6 a4 c5 (b.old.erase key)]) (R := [outer w0 [box Bb [.slice ab_0 b.young.length cb_0, .int .i64 b.first, .slice ab_1 b.old.length cb_1, .int .i64 b.second] 170, own tInt Sb_0 ab_0 cb_0 b.young, own tInt Sb_1 ab_1 cb_1 b.old]]) rfl (leave_young_ok (⟨b.first, b.second, b.young, b.old.erase key⟩ : DHalls) Bb a1 c2 S3 a4 c5 S6 key) hf130 rfl (fun _ _ => trivial) rfl ?_
  rintro ⟨a22, c23, S24, a25, c26, S27⟩
  refine o_asH (H' := [box Bb [.slice a22 (b.young.erase key).length c23, .int .i64 b.first, .slice a25 (b.old.erase key).length c26, .int .i64 b.second] 170, own tInt S24 a22 c23 (b.young.erase key), own tInt S27 a25 c26 (b.old.erase key), outer w0 [box Bb [.slice ab_0 b.young.length cb_0, .int .i64 b.first, .slice ab_1 b.old.length cb_1, .int .i64 b.second] 170, own tInt Sb_0 ab_0 cb_0 b.young, own tInt Sb_1 ab_1 cb_1 b.old]]) rfl ?_
  refine o_pf rfl rfl rfl ?_
  refine o_nil (q_then ?_)
  refine c_cond (b := (decide (key ∈ b.young))) rfl (fun hc30 => ?_) (fun hc30 => ?_)
  ·simp only [decide_eq_true_eq] at hc30
   have hyy : key ∈ b.young := by simpa using hc30
   refine c_seq (c_region ?_)
   refine o_mv rfl rfl ?_
   refine o_pure (p_nilCheck rfl) rfl rfl rfl ?_
   refine o_pure (p_fieldAddr (B := Bb) (j := 0) (j' := 2) rfl fo170_1 rfl) rfl rfl rfl ?_
   refine o_mv rfl rfl ?_
   refine o_callX (pre := [box Bb [.slice a22 (b.young.erase key).length c23, .int .i64 b.first, .slice a25 (b.old.erase key).length c26, .int .i64 b.second] 170, own tInt S24 a22 c23 (b.young.erase key), own tInt S27 a25 c26 (b.old.erase key)]) (R := [outer w0 [box Bb [.slice ab_0 b.young.length cb_0, .int .i64 b.first, .slice ab_1 b.old.length cb_1, .int .i64 b.second] 170, own tInt Sb_0 ab_0 cb_0 b.young, own tInt Sb_1 ab_1 cb_1 b.old]]) rfl (enter_old_ok (⟨b.first, b.second, b.young.erase key, (b.old.erase key)⟩ : DHalls) Bb a22 c23 S24 a25 c26 S27 key (by first | omega | (dsimp only; omega))) hf131 rfl (fun _ _ => trivial) rfl ?_
   rintro ⟨a31, c32, S33, a34, c35, S36, a37, c38, S39⟩
   refine o_asH (H' := [box Bb [.slice a31 (b.young.erase key).length c32, .int .i64 b.first, .slice a34 ((key :: (b.old.erase key)).take b.second.toNat).length c35, .int .i64 b.second] 170, own tInt S33 a31 c32 (b.young.erase key), own tInt S36 a34 c35 ((key :: (b.old.erase key)).take b.second.toNat), own tInt S39 a37 c38 ((key :: (b.old.erase key)).drop b.second.toNat), outer w0 [box Bb [.slice ab_0 b.young.length cb_0, .int .i64 b.first, .slice ab_1 b.old.length cb_1, .int .i64 b.second] 170, own tInt Sb_0 ab_0 cb_0 b.young, own tInt Sb_1 ab_1 cb_1 b.old]]) rfl ?_
   refine o_as rfl rfl ?_
   refine o_as rfl rfl ?_
   refine o_nil (q_then (c_ret ?_))
   refine q_then_ret ?_
   have hr0 : ((b.young.erase key) : List Int) = ((Seg.touch b key).1).young := by
    first | (rw [Seg.touch_old ho hy1.once]; done) | (rw [Seg.touch_young ho hyy]; done) | (rw [Seg.touch_young ho hyy, List.erase_of_not_mem ho]; done) | (rw [Seg.touch_new ho hyy]; done) | (rw [Seg.touch_new ho hyy, List.erase_of_not_mem hyy]; done) | (rw [Seg.touch_new ho hyy, List.erase_of_not_mem ho]; done)
   have hr1 : (b.first : Int) = ((Seg.touch b key).1).first := by
    first | (rw [Seg.touch_old ho hy1.once]; done) | (rw [Seg.touch_young ho hyy]; done) | (rw [Seg.touch_young ho hyy, List.erase_of_not_mem ho]; done) | (rw [Seg.touch_new ho hyy]; done) | (rw [Seg.touch_new ho hyy, List.erase_of_not_mem hyy]; done) | (rw [Seg.touch_new ho hyy, List.erase_of_not_mem ho]; done)
   have hr2 : ((key :: (b.old.erase key)).take b.second.toNat : List Int) = ((Seg.touch b key).1).old := by
    first | (rw [Seg.touch_old ho hy1.once]; done) | (rw [Seg.touch_young ho hyy]; done) | (rw [Seg.touch_young ho hyy, List.erase_of_not_mem ho]; done) | (rw [Seg.touch_new ho hyy]; done) | (rw [Seg.touch_new ho hyy, List.erase_of_not_mem hyy]; done) | (rw [Seg.touch_new ho hyy, List.erase_of_not_mem ho]; done)
   have hr3 : (b.second : Int) = ((Seg.touch b key).1).second := by
    first | (rw [Seg.touch_old ho hy1.once]; done) | (rw [Seg.touch_young ho hyy]; done) | (rw [Seg.touch_young ho hyy, List.erase_of_not_mem ho]; done) | (rw [Seg.touch_new ho hyy]; done) | (rw [Seg.touch_new ho hyy, List.erase_of_not_mem hyy]; done) | (rw [Seg.touch_new ho hyy, List.erase_of_not_mem ho]; done)
   have hr4 : (true : Bool) = ((Seg.touch b key).2.1) := by
    first | (rw [Seg.touch_old ho hy1.once]; done) | (rw [Seg.touch_young ho hyy]; done) | (rw [Seg.touch_young ho hyy, List.erase_of_not_mem ho]; done) | (rw [Seg.touch_new ho hyy]; done) | (rw [Seg.touch_new ho hyy, List.erase_of_not_mem hyy]; done) | (rw [Seg.touch_new ho hyy, List.erase_of_not_mem ho]; done)
   have hr5 : (((key :: (b.old.erase key)).drop b.second.toNat) : List Int) = ((Seg.touch b key).2.2) := by
    first | (rw [Seg.touch_old ho hy1.once]; done) | (rw [Seg.touch_young ho hyy]; done) | (rw [Seg.touch_young ho hyy, List.erase_of_not_mem ho]; done) | (rw [Seg.touch_new ho hyy]; done) | (rw [Seg.touch_new ho hyy, List.erase_of_not_mem hyy]; done) | (rw [Seg.touch_new ho hyy, List.erase_of_not_mem ho]; done)
   refine q_endX (p := (a31, c32, S33, a34, c35, S36, a37, c38, S39)) (rt2 rfl (r_tmp rfl) (r_tmp rfl)) ?_ (fun w hw => ?_)
   ·exact (by have hcc := congr (congr (congr (congr (congr (congrArg (fun (y0 : List Int) (y1 : Int) (y2 : List Int) (y3 : Int) (y4 : Bool) (y5 : List Int) => (.tuple #[.bool y4, .slice a37 y5.length c38] : Value)) hr0) hr1) hr2) hr3) hr4) hr5; exact hcc)
   ·have h2 := hw.pick (H' := [outer w0 [box Bb [.slice ab_0 b.young.length cb_0, .int .i64 b.first, .slice ab_1 b.old.length cb_1, .int .i64 b.second] 170, own tInt Sb_0 ab_0 cb_0 b.young, own tInt Sb_1 ab_1 cb_1 b.old], box Bb [.slice a31 (b.young.erase key).length c32, .int .i64 b.first, .slice a34 ((key :: (b.old.erase key)).take b.second.toNat).length c35, .int .i64 b.second] 170, own tInt S33 a31 c32 (b.young.erase key), own tInt S36 a34 c35 ((key :: (b.old.erase key)).take b.second.toNat), own tInt S39 a37 c38 ((key :: (b.old.erase key)).drop b.second.toNat)]) [4, 0, 1, 2, 3] (by decide) rfl
    exact Eq.mp (congrArg (fun z => HeapIs w0 ((outer w0 [box Bb [.slice ab_0 b.young.length cb_0, .int .i64 b.first, .slice ab_1 b.old.length cb_1, .int .i64 b.second] 170, own tInt Sb_0 ab_0 cb_0 b.young, own tInt Sb_1 ab_1 cb_1 b.old]) :: z) w) ((by have hcc := congr (congr (congr (congr (congr (congrArg (fun (y0 : List Int) (y1 : Int) (y2 : List Int) (y3 : Int) (y4 : Bool) (y5 : List Int) => ([box Bb [.slice a31 y0.length c32, .int .i64 y1, .slice a34 y2.length c35, .int .i64 y3] 170, own tInt S33 a31 c32 y0, own tInt S36 a34 c35 y2, own tInt S39 a37 c38 y5] : List Ent)) hr0) hr1) hr2) hr3) hr4) hr5; exact hcc))) h2
  ·simp only [decide_eq_false_iff_not] at hc30
   have hyy : key ∉ b.young := by simpa using hc30
   refine c_skip (q_then (c_seq (c_region ?_)))
   refine o_mv rfl rfl ?_
   refine o_pure (p_nilCheck rfl) rfl rfl rfl ?_
   refine o_pure (p_fieldAddr (B := Bb) (j := 0) (j' := 0) rfl fo170_0 rfl) rfl rfl rfl ?_
   refine o_mv rfl rfl ?_
   refine o_callX (pre := [box Bb [.slice a22 (b.young.erase key).length c23, .int .i64 b.first, .slice a25 (b.old.erase key).length c26, .int .i64 b.second] 170, own tInt S24 a22 c23 (b.young.erase key), own tInt S27 a25 c26 (b.old.erase key)]) (R := [outer w0 [box Bb [.slice ab_0 b.young.length cb_0, .int .i64 b.first, .slice ab_1 b.old.length cb_1, .int .i64 b.second] 170, own tInt Sb_0 ab_0 cb_0 b.young, own tInt Sb_1 ab_1 cb_1 b.old]]) rfl (enter_young_ok (⟨b.first, b.second, b.young.erase key, (b.old.erase key)⟩ : DHalls) Bb a22 c23 S24 a25 c26 S27 key (by first | omega | (dsimp only; omega))) hf131 rfl (fun _ _ => trivial) rfl ?_
   rintro ⟨a43, c44, S45, a46, c47, S48, a49, c50, S51⟩
   refine o_asH (H' := [box Bb [.slice a43 ((key :: (b.young.erase key)).take b.first.toNat).length c44, .int .i64 b.first, .slice a46 (b.old.erase key).length c47, .int .i64 b.second] 170, own tInt S45 a43 c44 ((key :: (b.young.erase key)).take b.first.toNat), own tInt S48 a46 c47 (b.old.erase key), own tInt S51 a49 c50 ((key :: (b.young.erase key)).drop b.first.toNat), outer w0 [box Bb [.slice ab_0 b.young.length cb_0, .int .i64 b.first, .slice ab_1 b.old.length cb_1, .int .i64 b.second] 170, own tInt Sb_0 ab_0 cb_0 b.young, own tInt Sb_1 ab_1 cb_1 b.old]]) rfl ?_
   refine o_as rfl rfl ?_
   refine o_as rfl rfl ?_
   refine o_nil (q_then (c_ret ?_))
   have hr0 : ((key :: (b.young.erase key)).take b.first.toNat : List Int) = ((Seg.touch b key).1).young := by
    first | (rw [Seg.touch_old ho hy1.once]; done) | (rw [Seg.touch_young ho hyy]; done) | (rw [Seg.touch_young ho hyy, List.erase_of_not_mem ho]; done) | (rw [Seg.touch_new ho hyy]; done) | (rw [Seg.touch_new ho hyy, List.erase_of_not_mem hyy]; done) | (rw [Seg.touch_new ho hyy, List.erase_of_not_mem ho]; done)
   have hr1 : (b.first : Int) = ((Seg.touch b key).1).first := by
    first | (rw [Seg.touch_old ho hy1.once]; done) | (rw [Seg.touch_young ho hyy]; done) | (rw [Seg.touch_young ho hyy, List.erase_of_not_mem ho]; done) | (rw [Seg.touch_new ho hyy]; done) | (rw [Seg.touch_new ho hyy, List.erase_of_not_mem hyy]; done) | (rw [Seg.touch_new ho hyy, List.erase_of_not_mem ho]; done)
   have hr2 : ((b.old.erase key) : List Int) = ((Seg.touch b key).1).old := by
    first | (rw [Seg.touch_old ho hy1.once]; done) | (rw [Seg.touch_young ho hyy]; done) | (rw [Seg.touch_young ho hyy, List.erase_of_not_mem ho]; done) | (rw [Seg.touch_new ho hyy]; done) | (rw [Seg.touch_new ho hyy, List.erase_of_not_mem hyy]; done) | (rw [Seg.touch_new ho hyy, List.erase_of_not_mem ho]; done)
   have hr3 : (b.second : Int) = ((Seg.touch b key).1).second := by
    first | (rw [Seg.touch_old ho hy1.once]; done) | (rw [Seg.touch_young ho hyy]; done) | (rw [Seg.touch_young ho hyy, List.erase_of_not_mem ho]; done) | (rw [Seg.touch_new ho hyy]; done) | (rw [Seg.touch_new ho hyy, List.erase_of_not_mem hyy]; done) | (rw [Seg.touch_new ho hyy, List.erase_of_not_mem ho]; done)
   have hr4 : (false : Bool) = ((Seg.touch b key).2.1) := by
    first | (rw [Seg.touch_old ho hy1.once]; done) | (rw [Seg.touch_young ho hyy]; done) | (rw [Seg.touch_young ho hyy, List.erase_of_not_mem ho]; done) | (rw [Seg.touch_new ho hyy]; done) | (rw [Seg.touch_new ho hyy, List.erase_of_not_mem hyy]; done) | (rw [Seg.touch_new ho hyy, List.erase_of_not_mem ho]; done)
   have hr5 : (((key :: (b.young.erase key)).drop b.first.toNat) : List Int) = ((Seg.touch b key).2.2) := by
    first | (rw [Seg.touch_old ho hy1.once]; done) | (rw [Seg.touch_young ho hyy]; done) | (rw [Seg.touch_young ho hyy, List.erase_of_not_mem ho]; done) | (rw [Seg.touch_new ho hyy]; done) | (rw [Seg.touch_new ho hyy, List.erase_of_not_mem hyy]; done) | (rw [Seg.touch_new ho hyy, List.erase_of_not_mem ho]; done)
   refine q_endX (p := (a43, c44, S45, a46, c47, S48, a49, c50, S51)) (rt2 rfl (r_tmp rfl) (r_tmp rfl)) ?_ (fun w hw => ?_)
   ·exact (by have hcc := congr (congr (congr (congr (congr (congrArg (fun (y0 : List Int) (y1 : Int) (y2 : List Int) (y3 : Int) (y4 : Bool) (y5 : List Int) => (.tuple #[.bool y4, .slice a49 y5.length c50] : Value)) hr0) hr1) hr2) hr3) hr4) hr5; exact hcc)
   ·have h2 := hw.pick (H' := [outer w0 [box Bb [.slice ab_0 b.young.length cb_0, .int .i64 b.first, .slice ab_1 b.old.length cb_1, .int .i64 b.second] 170, own tInt Sb_0 ab_0 cb_0 b.young, own tInt Sb_1 ab_1 cb_1 b.old], box Bb [.slice a43 ((key :: (b.young.erase key)).take b.first.toNat).length c44, .int .i64 b.first, .slice a46 (b.old.erase key).length c47, .int .i64 b.second] 170, own tInt S45 a43 c44 ((key :: (b.young.erase key)).take b.first.toNat), own tInt S48 a46 c47 (b.old.erase key), own tInt S51 a49 c50 ((key :: (b.young.erase key)).drop b.first.toNat)]) [4, 0, 1, 2, 3] (by decide) rfl
    exact Eq.mp (congrArg (fun z => HeapIs w0 ((outer w0 [box Bb [.slice ab_0 b.young.length cb_0, .int .i64 b.first, .slice ab_1 b.old.length cb_1, .int .i64 b.second] 170, own tInt Sb_0 ab_0 cb_0 b.young, own tInt Sb_1 ab_1 cb_1 b.old]) :: z) w) ((by have hcc := congr (congr (congr (congr (congr (congrArg (fun (y0 : List Int) (y1 : Int) (y2 : List Int) (y3 : Int) (y4 : Bool) (y5 : List Int) => ([box Bb [.slice a43 y0.length c44, .int .i64 y1, .slice a46 y2.length c47, .int .i64 y3] 170, own tInt S45 a43 c44 y0, own tInt S48 a46 c47 y2, own tInt S51 a49 c50 y5] : List Ent)) hr0) hr1) hr2) hr3) hr4) hr5; exact hcc))) h2

set_option maxHeartbeats 8000000 in
set_option maxRecDepth 100000 in
theorem srun_ok (h : DHalls) (ah_0 : Option Addr) (ch_0 : Nat) (ah_1 : Option Addr) (ch_1 : Nat) (l : List Int) (al : Option Addr) (cl : Nat) : FnM Try.prog 70 [.agg #[.int .i64 h.first, .int .i64 h.second, .slice ah_0 h.young.length ch_0, .slice ah_1 h.old.length ch_1], .slice al l.length cl] (fun w => Rd tInt w ah_0 ch_0 h.young ∧ Rd tInt w ah_1 ch_1 h.old ∧ Rd tInt w al cl l) (Option Addr × Nat × Option Addr × Nat) (fun p => .tuple #[.agg #[.int .i64 (((Seg.run h l).1).first), .int .i64 (((Seg.run h l).1).second), .slice p.1 (((Seg.run h l).1).young).length p.2.1, .slice p.2.2.1 (((Seg.run h l).1).old).length p.2.2.2], .int .i64 ((Seg.run h l).2), .int .i64 (Seg.runErr h l)]) (fun p S w => SlR tInt S w p.1 p.2.1 (((Seg.run h l).1).young) ∧ SlR tInt S w p.2.2.1 p.2.2.2 (((Seg.run h l).1).old)) := by
 refine fnM (nt := 45) (F0 := [(0, .agg #[.int .i64 h.first, .int .i64 h.second, .slice ah_0 h.young.length ch_0, .slice ah_1 h.old.length ch_1]), (1, .slice al l.length cl)]) Try.func70 rfl Try.ntmps70 rfl rfl (fun w0 hpre => ?_)
 obtain ⟨hh_0, hh_1, hl⟩ := hpre
 have hlhh_0 := hh_0.2.1
 have hlhh_1 := hh_1.2.1
 have hlhl := hl.2.1
 refine c_seq (c_region ?_)
 refine o_box (v := .agg #[.int .i64 h.first, .int .i64 h.second, .slice ah_0 h.young.length ch_0, .slice ah_1 h.old.length ch_1]) rfl rfl (fun B1 => ?_)
 refine o_alloc ze104 rfl (fun B2 => ?_)
 refine o_as rfl rfl ?_
 refine o_as rfl rfl ?_
 refine o_nil (q_then (c_seq (c_region ?_)))
 refine o_pure (p_load_agg (i := 1) (vs := [.int .i64 h.first, .int .i64 h.second, .slice ah_0 h.young.length ch_0, .slice ah_1 h.old.length ch_1]) rfl rfl sh104 rfl rfl) rfl rfl rfl ?_
 refine o_call0 (v := .int .i64 (Seg.check h)) rfl (scheck_ok h ah_0 ch_0 ah_1 ch_1) hf97 (fun w hw => ⟨(rd_base (i := 2) rfl hh_0) w hw, (rd_base (i := 2) rfl hh_1) w hw⟩) rfl ?_
 refine o_as rfl rfl ?_
 refine o_nil (q_then (c_seq (c_seq (c_region ?_))))
 refine o_mv rfl rfl ?_
 refine o_pure (p_eq (p := (Seg.check h)) (q := 0) rfl rfl) rfl rfl rfl ?_
 refine o_nil (q_then ?_)
 refine c_cond (b := ((Seg.check h) == 0)) rfl (fun hc3 => ?_) (fun hc3 => ?_)
 ·simp only [beq_iff_eq] at hc3
  have hck := hc3
  have hok := Seg.ok_of hck
  have hfr := hok.first
  have hse := hok.second
  have hl1 := hok.len1
  have hl2 := hok.len2
  refine c_region ?_
  refine o_mv rfl rfl ?_
  refine o_call0 (v := .int .i64 (Lru.trace l)) rfl (checkTrace_ok l al cl) hf46 (fun w hw => (rd_base (i := 2) rfl hl) w hw) rfl ?_
  refine o_as rfl rfl ?_
  refine o_nil (q_then (c_seq (c_seq (c_region ?_))))
  refine o_mv rfl rfl ?_
  refine o_pure (p_ne (p := (Lru.trace l)) (q := 0) rfl rfl) rfl rfl rfl ?_
  refine o_nil (q_then ?_)
  refine c_cond (b := ((Lru.trace l) != 0)) rfl (fun hc4 => ?_) (fun hc4 => ?_)
  ·simp only [bne_iff_ne, ne_eq] at hc4
   refine c_seq (c_region ?_)
   refine o_pure (p_build (cells := [.int .i64 0, .int .i64 0, .slice none 0 0, .slice none 0 0]) fp104 ze104 rfl rfl) rfl rfl rfl ?_
   refine o_mv rfl rfl ?_
   refine o_storeN (i := 0) (vs := [.int .i64 0, .int .i64 0, .slice none 0 0, .slice none 0 0]) (cs' := [.int .i64 0, .int .i64 0, .slice none 0 0, .slice none 0 0]) rfl rfl rfl sz104 rfl rfl rfl rfl ?_
   refine o_as rfl rfl ?_
   refine o_as rfl rfl ?_
   refine o_nil (q_then (c_ret ?_))
   refine q_then_ret ?_
   obtain ⟨ha, hae⟩ : _ ∧ _ := by first | exact Seg.run1 (c := h) (l := l) (by assumption) | exact Seg.run2 (c := h) (l := l) (by assumption) (by assumption) | (obtain ⟨h1, h2⟩ := Seg.run3 (c := h) (l := l) (by assumption) (by assumption); rw [hI.done (by omega)] at h1; exact ⟨h1, h2⟩)
   have hr0 : (0 : Int) = ((Seg.run h l).1).first := by
    first | (simp only [ha, hae, Seg.zero]; done) | (rw [ha]; done)
   have hr1 : (0 : Int) = ((Seg.run h l).1).second := by
    first | (simp only [ha, hae, Seg.zero]; done) | (rw [ha]; done)
   have hr2 : ([] : List Int) = ((Seg.run h l).1).young := by
    first | (simp only [ha, hae, Seg.zero]; done) | (rw [ha]; done)
   have hr3 : ([] : List Int) = ((Seg.run h l).1).old := by
    first | (simp only [ha, hae, Seg.zero]; done) | (rw [ha]; done)
   have hr4 : (0 : Int) = ((Seg.run h l).2) := by
    first | (simp only [ha, hae, Seg.zero]; done) | (rw [ha]; done)
   have hr5 : ((Lru.trace l) : Int) = (Seg.runErr h l) := by
    first | (simp only [ha, hae, Seg.zero]; done) | (rw [ha]; done)
   refine q_endM (p := (none, 0, none, 0)) (fun _ => False) (rt3 rfl (r_cell (i := 0) rfl rfl sh104 rfl) (r_tmp rfl) (r_tmp rfl)) (i := 2) rfl ?_ ?_ ?_
   ·exact (by have hcc := congr (congr (congr (congr (congr (congrArg (fun (y0 : Int) (y1 : Int) (y2 : List Int) (y3 : List Int) (y4 : Int) (y5 : Int) => (.tuple #[.agg #[.int .i64 y0, .int .i64 y1, .slice none y2.length 0, .slice none y3.length 0], .int .i64 y4, .int .i64 y5] : Value)) hr0) hr1) hr2) hr3) hr4) hr5; exact hcc)
   ·intro w hw b hb; exact hb.elim
   ·intro w hw; exact ⟨Eq.mp (congrArg (fun y => SlR tInt _ w none 0 y) hr2) (SlR.nil tInt _ w), Eq.mp (congrArg (fun y => SlR tInt _ w none 0 y) hr3) (SlR.nil tInt _ w)⟩
  ·simp only [bne_eq_false_iff_eq] at hc4
   refine c_skip (q_then (c_seq (c_region ?_)))
   refine o_pure (p_load_agg (i := 1) (vs := [.int .i64 h.first, .int .i64 h.second, .slice ah_0 h.young.length ch_0, .slice ah_1 h.old.length ch_1]) rfl rfl sh104 rfl rfl) rfl rfl rfl ?_
   refine o_callX (pre := []) (R := [box B2 [.int .i64 0, .int .i64 0, .slice none 0 0, .slice none 0 0] 104, box B1 [.int .i64 h.first, .int .i64 h.second, .slice ah_0 h.young.length ch_0, .slice ah_1 h.old.length ch_1] 104, base w0]) rfl (sowned_ok h ah_0 ch_0 ah_1 ch_1 (by omega)) hf98 rfl (fun w hw => ⟨(rdX (i := 2) (js := []) rfl (by decide) rfl (fun _ hA => slR_base hh_0 hA)) w hw, (rdX (i := 2) (js := []) rfl (by decide) rfl (fun _ hA => slR_base hh_1 hA)) w hw⟩) rfl ?_
   rintro ⟨B5, a6, c7, S8, a9, c10, S11⟩
   refine o_asH (H' := [box B5 [.slice a6 h.young.length c7, .int .i64 h.first, .slice a9 h.old.length c10, .int .i64 h.second] 170, own tInt S8 a6 c7 h.young, own tInt S11 a9 c10 h.old, box B2 [.int .i64 0, .int .i64 0, .slice none 0 0, .slice none 0 0] 104, box B1 [.int .i64 h.first, .int .i64 h.second, .slice ah_0 h.young.length ch_0, .slice ah_1 h.old.length ch_1] 104, base w0]) rfl ?_
   refine o_as rfl rfl ?_
   refine o_as rfl rfl ?_
   refine o_nil (q_then (c_seq (c_seq (c_region ?_))))
   refine o_mv rfl rfl ?_
   refine o_pure (p_len_slice (len := l.length) rfl rfl Try.underlying22) rfl rfl rfl ?_
   refine o_mv rfl rfl ?_
   refine o_nil (q_then (c_block ?_))
   refine c_loop (St := Int × Nat × DHalls × Option Addr × Nat × (Nat → Prop) × Option Addr × Nat × (Nat → Prop))
    (fun ⟨hits, k, cc, acc_0, ccc_0, Scc_0, acc_1, ccc_1, Scc_1⟩ => [(4, .pointer (some ⟨B2, 0, none⟩)), (8, .pointer (some ⟨B5, 0, none⟩)), (9, .int .i64 hits), (26, .slice al l.length cl), (27, .int .i64 (l.length : Int)), (28, .int .i64 (k : Int))])
    (fun ⟨hits, k, cc, acc_0, ccc_0, Scc_0, acc_1, ccc_1, Scc_1⟩ => [box B5 [.slice acc_0 cc.young.length ccc_0, .int .i64 cc.first, .slice acc_1 cc.old.length ccc_1, .int .i64 cc.second] 170, own tInt Scc_0 acc_0 ccc_0 cc.young, own tInt Scc_1 acc_1 ccc_1 cc.old, box B2 [.int .i64 0, .int .i64 0, .slice none 0 0, .slice none 0 0] 104, box B1 [.int .i64 h.first, .int .i64 h.second, .slice ah_0 h.young.length ch_0, .slice ah_1 h.old.length ch_1] 104, base w0])
    (fun ⟨hits, k, cc, acc_0, ccc_0, Scc_0, acc_1, ccc_1, Scc_1⟩ => Seg.RInv h cc l hits k)
    (fun ⟨hits, k, cc, acc_0, ccc_0, Scc_0, acc_1, ccc_1, Scc_1⟩ => l.length - k)
    (0, 0, h, a6, c7, S8, a9, c10, S11) ?_ (Sub.cons rfl (Sub.cons rfl (Sub.cons rfl (Sub.cons rfl (Sub.cons rfl (Sub.cons rfl (Sub.nil _))))))) (fun _ hw => hw) ?_
   ·exact Seg.RInv.start' (by assumption) (by assumption)
   rintro ⟨hits, k, cc, acc_0, ccc_0, Scc_0, acc_1, ccc_1, Scc_1⟩ hI K hK14
   have hn0 := hI.n0
   have hn1 := hI.n1
   show SC _ _ Try.prog 45 w0 _ _ [(4, .pointer (some ⟨B2, 0, none⟩)), (8, .pointer (some ⟨B5, 0, none⟩)), (9, .int .i64 hits), (26, .slice al l.length cl), (27, .int .i64 (l.length : Int)), (28, .int .i64 (k : Int))] [box B5 [.slice acc_0 cc.young.length ccc_0, .int .i64 cc.first, .slice acc_1 cc.old.length ccc_1, .int .i64 cc.second] 170, own tInt Scc_0 acc_0 ccc_0 cc.young, own tInt Scc_1 acc_1 ccc_1 cc.old, box B2 [.int .i64 0, .int .i64 0, .slice none 0 0, .slice none 0 0] 104, box B1 [.int .i64 h.first, .int .i64 h.second, .slice ah_0 h.young.length ch_0, .slice ah_1 h.old.length ch_1] 104, base w0]
   refine c_seq (c_region ?_)
   refine o_pure (p_lt (p := (k : Int)) (q := (l.length : Int)) rfl rfl) rfl rfl rfl ?_
   refine o_nil (q_then (c_seq ?_))
   refine c_cond (b := decide ((k : Int) < (l.length : Int))) rfl (fun hc15 => ?_) (fun hc15 => ?_)
   ·simp only [decide_eq_true_eq] at hc15
    refine c_skip (q_then (c_seq (c_block (c_seq (c_region ?_)))))
    refine o_pure (p_indexAddr (L := l) (T := tInt) (i := (k : Int)) rfl rfl (rd_base (i := 5) rfl hl) Try.underlying22 sz3 (by omega) (by omega)) rfl rfl rfl ?_
    refine o_pure (p_loadE1 (i := k) (T := tInt) (L := l) (v := .int .i64 (l[k])) rfl (rd_base (i := 5) rfl hl) (by first | assumption | omega) sh3 rfl) rfl rfl rfl ?_
    refine o_as rfl rfl ?_
    refine o_nil (q_then (c_seq (c_region ?_)))
    refine o_mv rfl rfl ?_
    refine o_mv rfl rfl ?_
    refine o_callX (pre := [box B5 [.slice acc_0 cc.young.length ccc_0, .int .i64 cc.first, .slice acc_1 cc.old.length ccc_1, .int .i64 cc.second] 170, own tInt Scc_0 acc_0 ccc_0 cc.young, own tInt Scc_1 acc_1 ccc_1 cc.old]) (R := [box B2 [.int .i64 0, .int .i64 0, .slice none 0 0, .slice none 0 0] 104, box B1 [.int .i64 h.first, .int .i64 h.second, .slice ah_0 h.young.length ch_0, .slice ah_1 h.old.length ch_1] 104, base w0]) rfl (stouch_ok cc B5 acc_0 ccc_0 Scc_0 acc_1 ccc_1 Scc_1 (l[k]) (by first | assumption | exact hI.ok | omega)) hf99 rfl (fun _ _ => trivial) rfl ?_
    rintro ⟨a16, c17, S18, a19, c20, S21, a22, c23, S24⟩
    refine o_asH (H' := [box B5 [.slice a16 (((Seg.touch cc (l[k])).1).young).length c17, .int .i64 (((Seg.touch cc (l[k])).1).first), .slice a19 (((Seg.touch cc (l[k])).1).old).length c20, .int .i64 (((Seg.touch cc (l[k])).1).second)] 170, own tInt S18 a16 c17 (((Seg.touch cc (l[k])).1).young), own tInt S21 a19 c20 (((Seg.touch cc (l[k])).1).old), own tInt S24 a22 c23 ((Seg.touch cc (l[k])).2.2), box B2 [.int .i64 0, .int .i64 0, .slice none 0 0, .slice none 0 0] 104, box B1 [.int .i64 h.first, .int .i64 h.second, .slice ah_0 h.young.length ch_0, .slice ah_1 h.old.length ch_1] 104, base w0]) rfl ?_
    refine o_mv rfl rfl ?_
    refine o_ex rfl rfl rfl ?_
    refine o_ex rfl rfl rfl ?_
    refine o_as rfl rfl ?_
    refine o_as rfl rfl ?_
    refine o_nil (q_then (c_seq (c_region ?_)))
    refine o_mv rfl rfl ?_
    refine o_nil (q_then ?_)
    refine c_cond (b := ((Seg.touch cc (l[k])).2.1)) rfl (fun hc28 => ?_) (fun hc28 => ?_)
    ·skip
     refine c_region ?_
     refine o_mv rfl rfl ?_
     refine o_pure (p_addb (p := hits) (q := 1) rfl rfl (by omega)) rfl rfl rfl ?_
     refine o_as rfl rfl ?_
     refine o_nil ?_
     refine q_block_normal (q_then ?_)
     refine c_region ?_
     refine o_pure (p_addb (p := (k : Int)) (q := 1) rfl rfl (by omega)) rfl rfl rfl ?_
     refine o_mv rfl rfl ?_
     refine o_nil ?_
     refine q_round hK14 ((hits + 1), k + 1, ((Seg.touch cc (l[k])).1), a16, c17, S18, a19, c20, S21) ?_ ?_ ?_ ?_
     ·clear hK14
      first | exact hI.hit (by omega) (by assumption) | exact hI.miss (by omega) (by assumption)
     ·(try dsimp only); omega
     ·exact Sub.cons rfl (Sub.cons rfl (Sub.cons rfl (Sub.cons rfl (Sub.cons rfl (Sub.cons rfl (Sub.nil _))))))
     ·exact fun _ hw => HeapIs.pick hw [0, 1, 2, 4, 5, 6] (by decide) rfl
    ·skip
     refine c_skip ?_
     refine q_block_normal (q_then ?_)
     refine c_region ?_
     refine o_pure (p_addb (p := (k : Int)) (q := 1) rfl rfl (by omega)) rfl rfl rfl ?_
     refine o_mv rfl rfl ?_
     refine o_nil ?_
     refine q_round hK14 (hits, k + 1, ((Seg.touch cc (l[k])).1), a16, c17, S18, a19, c20, S21) ?_ ?_ ?_ ?_
     ·clear hK14
      first | exact hI.hit (by omega) (by assumption) | exact hI.miss (by omega) (by assumption)
     ·(try dsimp only); omega
     ·exact Sub.cons rfl (Sub.cons rfl (Sub.cons rfl (Sub.cons rfl (Sub.cons rfl (Sub.cons rfl (Sub.nil _))))))
     ·exact fun _ hw => HeapIs.pick hw [0, 1, 2, 4, 5, 6] (by decide) rfl
   ·simp only [decide_eq_false_iff_not, Int.not_lt] at hc15
    refine c_exit ?_
    refine q_then_exit (q_then_exit (q_block_exit (q_then ?_)))
    refine c_seq (c_region ?_)
    refine o_mv rfl rfl ?_
    refine o_callX (pre := [box B5 [.slice acc_0 cc.young.length ccc_0, .int .i64 cc.first, .slice acc_1 cc.old.length ccc_1, .int .i64 cc.second] 170, own tInt Scc_0 acc_0 ccc_0 cc.young, own tInt Scc_1 acc_1 ccc_1 cc.old]) (R := [box B2 [.int .i64 0, .int .i64 0, .slice none 0 0, .slice none 0 0] 104, box B1 [.int .i64 h.first, .int .i64 h.second, .slice ah_0 h.young.length ch_0, .slice ah_1 h.old.length ch_1] 104, base w0]) rfl (shalls_ok cc B5 acc_0 ccc_0 Scc_0 acc_1 ccc_1 Scc_1) hf100 rfl (fun _ _ => trivial) rfl ?_
    rintro ⟨a29, c30, S31, a32, c33, S34⟩
    refine o_asH (H' := [own tInt S31 a29 c30 cc.young, own tInt S34 a32 c33 cc.old, box B2 [.int .i64 0, .int .i64 0, .slice none 0 0, .slice none 0 0] 104, box B1 [.int .i64 h.first, .int .i64 h.second, .slice ah_0 h.young.length ch_0, .slice ah_1 h.old.length ch_1] 104, base w0]) rfl ?_
    refine o_mv rfl rfl ?_
    refine o_storeN (i := 2) (vs := [.int .i64 cc.first, .int .i64 cc.second, .slice a29 cc.young.length c30, .slice a32 cc.old.length c33]) (cs' := [.int .i64 cc.first, .int .i64 cc.second, .slice a29 cc.young.length c30, .slice a32 cc.old.length c33]) rfl rfl rfl sz104 rfl rfl rfl rfl ?_
    refine o_as rfl rfl ?_
    refine o_as rfl rfl ?_
    refine o_nil (q_then (c_ret ?_))
    obtain ⟨ha, hae⟩ : _ ∧ _ := by first | exact Seg.run1 (c := h) (l := l) (by assumption) | exact Seg.run2 (c := h) (l := l) (by assumption) (by assumption) | (obtain ⟨h1, h2⟩ := Seg.run3 (c := h) (l := l) (by assumption) (by assumption); rw [hI.done (by omega)] at h1; exact ⟨h1, h2⟩)
    have hr0 : (cc.first : Int) = ((Seg.run h l).1).first := by
     first | (simp only [ha, hae, Seg.zero]; done) | (rw [ha]; done)
    have hr1 : (cc.second : Int) = ((Seg.run h l).1).second := by
     first | (simp only [ha, hae, Seg.zero]; done) | (rw [ha]; done)
    have hr2 : (cc.young : List Int) = ((Seg.run h l).1).young := by
     first | (simp only [ha, hae, Seg.zero]; done) | (rw [ha]; done)
    have hr3 : (cc.old : List Int) = ((Seg.run h l).1).old := by
     first | (simp only [ha, hae, Seg.zero]; done) | (rw [ha]; done)
    have hr4 : (hits : Int) = ((Seg.run h l).2) := by
     first | (simp only [ha, hae, Seg.zero]; done) | (rw [ha]; done)
    have hr5 : (0 : Int) = (Seg.runErr h l) := by
     first | (simp only [ha, hae, Seg.zero]; done) | (rw [ha]; done)
    refine q_endM (p := (a29, c30, a32, c33)) (fun b => S31 b ∨ S34 b) (rt3 rfl (r_cell (i := 2) rfl rfl sh104 rfl) (r_tmp rfl) (r_tmp rfl)) (i := 4) rfl ?_ ?_ ?_
    ·exact (by have hcc := congr (congr (congr (congr (congr (congrArg (fun (y0 : Int) (y1 : Int) (y2 : List Int) (y3 : List Int) (y4 : Int) (y5 : Int) => (.tuple #[.agg #[.int .i64 y0, .int .i64 y1, .slice a29 y2.length c30, .slice a32 y3.length c33], .int .i64 y4, .int .i64 y5] : Value)) hr0) hr1) hr2) hr3) hr4) hr5; exact hcc)
    ·intro w hw b hb; rcases hb with hb | hb
     ·exact hw.above (i := 4) (j := 0) (by decide) rfl rfl b hb
     ·exact hw.above (i := 4) (j := 1) (by decide) rfl rfl b hb
    ·intro w hw; exact ⟨Eq.mp (congrArg (fun y => SlR tInt _ w a29 c30 y) hr2) (SlR.mono (fun b hb => by simp [hb]) (SlO.toR (hw.at (i := 0) rfl).here)), Eq.mp (congrArg (fun y => SlR tInt _ w a32 c33 y) hr3) (SlR.mono (fun b hb => by simp [hb]) (SlO.toR (hw.at (i := 1) rfl).here))⟩
 ·simp only [beq_eq_false_iff_ne, ne_eq] at hc3
  refine c_skip (q_then (c_seq (c_seq (c_region ?_))))
  refine o_mv rfl rfl ?_
  refine o_pure (p_ne (p := (Seg.check h)) (q := 0) rfl rfl) rfl rfl rfl ?_
  refine o_nil (q_then ?_)
  refine c_cond (b := ((Seg.check h) != 0)) rfl (fun hc37 => ?_) (fun hc37 => ?_)
  ·simp only [bne_iff_ne, ne_eq] at hc37
   refine c_seq (c_region ?_)
   refine o_pure (p_build (cells := [.int .i64 0, .int .i64 0, .slice none 0 0, .slice none 0 0]) fp104 ze104 rfl rfl) rfl rfl rfl ?_
   refine o_mv rfl rfl ?_
   refine o_storeN (i := 0) (vs := [.int .i64 0, .int .i64 0, .slice none 0 0, .slice none 0 0]) (cs' := [.int .i64 0, .int .i64 0, .slice none 0 0, .slice none 0 0]) rfl rfl rfl sz104 rfl rfl rfl rfl ?_
   refine o_as rfl rfl ?_
   refine o_as rfl rfl ?_
   refine o_nil (q_then (c_ret ?_))
   refine q_then_ret ?_
   obtain ⟨ha, hae⟩ : _ ∧ _ := by first | exact Seg.run1 (c := h) (l := l) (by assumption) | exact Seg.run2 (c := h) (l := l) (by assumption) (by assumption) | (obtain ⟨h1, h2⟩ := Seg.run3 (c := h) (l := l) (by assumption) (by assumption); rw [hI.done (by omega)] at h1; exact ⟨h1, h2⟩)
   have hr0 : (0 : Int) = ((Seg.run h l).1).first := by
    first | (simp only [ha, hae, Seg.zero]; done) | (rw [ha]; done)
   have hr1 : (0 : Int) = ((Seg.run h l).1).second := by
    first | (simp only [ha, hae, Seg.zero]; done) | (rw [ha]; done)
   have hr2 : ([] : List Int) = ((Seg.run h l).1).young := by
    first | (simp only [ha, hae, Seg.zero]; done) | (rw [ha]; done)
   have hr3 : ([] : List Int) = ((Seg.run h l).1).old := by
    first | (simp only [ha, hae, Seg.zero]; done) | (rw [ha]; done)
   have hr4 : (0 : Int) = ((Seg.run h l).2) := by
    first | (simp only [ha, hae, Seg.zero]; done) | (rw [ha]; done)
   have hr5 : ((Seg.check h) : Int) = (Seg.runErr h l) := by
    first | (simp only [ha, hae, Seg.zero]; done) | (rw [ha]; done)
   refine q_endM (p := (none, 0, none, 0)) (fun _ => False) (rt3 rfl (r_cell (i := 0) rfl rfl sh104 rfl) (r_tmp rfl) (r_tmp rfl)) (i := 2) rfl ?_ ?_ ?_
   ·exact (by have hcc := congr (congr (congr (congr (congr (congrArg (fun (y0 : Int) (y1 : Int) (y2 : List Int) (y3 : List Int) (y4 : Int) (y5 : Int) => (.tuple #[.agg #[.int .i64 y0, .int .i64 y1, .slice none y2.length 0, .slice none y3.length 0], .int .i64 y4, .int .i64 y5] : Value)) hr0) hr1) hr2) hr3) hr4) hr5; exact hcc)
   ·intro w hw b hb; exact hb.elim
   ·intro w hw; exact ⟨Eq.mp (congrArg (fun y => SlR tInt _ w none 0 y) hr2) (SlR.nil tInt _ w), Eq.mp (congrArg (fun y => SlR tInt _ w none 0 y) hr3) (SlR.nil tInt _ w)⟩
  ·simp only [bne_eq_false_iff_eq] at hc37
   exfalso; first | contradiction | omega | simp_all
end Go.Proofs.Ytfncgfcehkalnaa

/- The walks, printed by a program from the translation and a specification. -/
namespace Go.Proofs.Ytfncgfcehkalnaa
open Go.Sx Go.RowKit
set_option maxHeartbeats 8000000 in
set_option maxRecDepth 100000 in
theorem back1_ok (l : List Int) (al : Option Addr) (cl : Nat) (Bs : Nat) : ItOk Try.prog 143 [.pointer (some ⟨Bs, 0, none⟩)] (fun e w => ((box Bs [.slice al l.length cl] 22).A w ∧ (outer w [e]).S Bs) ∧ SlR tInt (outer w [e]).S w al cl l) Unit (fun x k => [.int .i64 ((l.length : Int) - 1 - (k : Int)), .int .i64 (l.getD (l.length - 1 - k) 0)]) (fun x k => []) (l.length) := by
 refine fnIt (nt := 19) (F1 := [(1, .pointer (some ⟨Bs, 0, none⟩))]) Try.func143 rfl Try.ntmps143 rfl rfl ?_
 intro l_ φ ψ e0 w0 hpre hφ Y
 obtain ⟨hb_Bs, hl⟩ := hpre
 have hlhl := hl.2.1
 refine c_seq (c_region ?_)
 refine o_pure (p_loadR (v := .slice al l.length cl) rfl (rbox_outer (i := 0) rfl hb_Bs) sh22 rfl) rfl rfl rfl ?_
 refine o_pure (p_len_slice (len := l.length) rfl rfl Try.underlying22) rfl rfl rfl ?_
 refine o_pure (p_subb (p := (l.length : Int)) (q := 1) rfl rfl (by omega)) rfl rfl rfl ?_
 refine o_as rfl rfl ?_
 refine o_nil (q_then (c_block ?_))
 refine c_loop (St := Int × Nat × Ent)
  (fun ⟨i, k, e⟩ => [(0, .func (.yield l_) #[] #[]), (1, .pointer (some ⟨Bs, 0, none⟩)), (3, .int .i64 i)])
  (fun ⟨i, k, e⟩ => [outer w0 [e0], e])
  (fun ⟨i, k, e⟩ => k ≤ l.length ∧ i = (l.length : Int) - 1 - (k : Int) ∧ φ k e)
  (fun ⟨i, k, e⟩ => (i + 1).toNat)
  (((l.length : Int) - 1), 0, e0) ?_ (Sub.cons rfl (Sub.cons rfl (Sub.cons rfl (Sub.nil _)))) (fun _ hw => hw) ?_
 ·exact ⟨Nat.zero_le _, by omega, hφ⟩
 rintro ⟨i, k, e⟩ hI K hK1
 have hk1 := hI.1
 have hk2 := hI.2.1
 show SC _ _ Try.prog 19 w0 _ _ [(0, .func (.yield l_) #[] #[]), (1, .pointer (some ⟨Bs, 0, none⟩)), (3, .int .i64 i)] [outer w0 [e0], e]
 refine c_seq (c_seq (c_region ?_))
 refine o_mv rfl rfl ?_
 refine o_pure (p_ge (p := i) (q := 0) rfl rfl) rfl rfl rfl ?_
 refine o_nil (q_then ?_)
 refine c_cond (b := decide (0 ≤ i)) rfl (fun hc2 => ?_) (fun hc2 => ?_)
 ·simp only [decide_eq_true_eq] at hc2
  refine c_skip (q_then (c_seq (c_block (c_seq ?_))))
  refine c_regionY ?_
  refine o_mv rfl rfl ?_
  refine o_mv rfl rfl ?_
  refine o_pure (p_loadR (v := .slice al l.length cl) rfl (rbox_outer (i := 0) rfl hb_Bs) sh22 rfl) rfl rfl rfl ?_
  refine o_mv rfl rfl ?_
  refine o_pure (p_indexAddr (L := l) (T := tInt) (i := i) rfl rfl (rd_outer (i := 0) rfl hl) Try.underlying22 sz3 (by omega) (by omega)) rfl rfl rfl ?_
  refine o_pure (p_loadE1 (i := i.toNat) (T := tInt) (L := l) (v := .int .i64 (l[i.toNat])) rfl (rd_outer (i := 0) rfl hl) (by first | assumption | omega) sh3 rfl) rfl rfl rfl ?_
  have hv : ([.int .i64 i, .int .i64 (l[i.toNat])] : List Value) = [.int .i64 ((l.length : Int) - 1 - (k : Int)), .int .i64 (l.getD (l.length - 1 - k) 0)] := Opt.back_vals hI.2.1 (by omega) (by omega)
  refine o_yield (l := l_) (vs := [.int .i64 i, .int .i64 (l[i.toNat])]) (φ := φ (k + 1)) (ψ := ψ) rfl rfl (fun W hW => by rw [hv]; exact Y () k e W (by omega) hI.2.2 hW) rfl (fun e_3 he4 => ?_) (fun e_3 he4 => ?_)
  ·have hend := he4
   refine o_pure (p_not (b := true) rfl) rfl rfl rfl ?_
   refine o_nil (q_then ?_)
   refine c_false rfl ?_
   refine c_skip ?_
   refine q_block_normal (q_then ?_)
   refine c_region ?_
   refine o_mv rfl rfl ?_
   refine o_pure (p_subb (p := i) (q := 1) rfl rfl (by omega)) rfl rfl rfl ?_
   refine o_as rfl rfl ?_
   refine o_nil ?_
   refine q_round hK1 ((i - 1), k + 1, e_3) ?_ ?_ ?_ ?_
   ·clear hK1
    exact ⟨by omega, by omega, hend⟩
   ·(try dsimp only); omega
   ·exact Sub.cons rfl (Sub.cons rfl (Sub.cons rfl (Sub.nil _)))
   ·exact fun _ hw => HeapIs.pick hw [0, 1] (by decide) rfl
  ·have hend := he4
   refine o_pure (p_not (b := false) rfl) rfl rfl rfl ?_
   refine o_nil (q_then ?_)
   refine c_true rfl ?_
   refine c_ret ?_
   refine q_block_ret (q_then_ret (q_then_ret (q_block_ret ?_)))
   refine q_endI (e := e_3) (rt0 rfl) ?_ (fun w hw => hw.pick (H' := [outer w0 [e0], e_3]) [0, 1] (by decide) rfl)
   first | exact .inr hend | exact .inl (it_fin hI.2.2 (by omega))
 ·simp only [decide_eq_false_iff_not, Int.not_le] at hc2
  refine c_exit ?_
  refine q_then_exit (q_then_exit (q_block_exit ?_))
  refine q_endI (e := e) (rt0 rfl) ?_ (fun w hw => hw.pick (H' := [outer w0 [e0], e]) [0, 1] (by decide) rfl)
  first | exact .inr hend | exact .inl (it_fin hI.2.2 (by omega))

set_option maxHeartbeats 8000000 in
set_option maxRecDepth 100000 in
theorem back_ok (l : List Int) (al : Option Addr) (cl : Nat) : FnX Try.prog 132 [.slice al l.length cl] [] (fun _ => True) (Nat) (fun p => .func (.func 143) #[] #[.pointer (some ⟨p, 0, none⟩)]) (fun p => [box p [.slice al l.length cl] 22]) := by
 refine fnX (nt := 4) (F0 := [(0, .slice al l.length cl)]) Try.func132 rfl Try.ntmps132 rfl rfl (fun w0 hpre => ?_)
 refine c_seq (c_region ?_)
 refine o_box (v := .slice al l.length cl) rfl rfl (fun B1 => ?_)
 refine o_as rfl rfl ?_
 refine o_nil (q_then (c_seq (c_region ?_)))
 refine o_pure (p_makeFunc (vs := [.pointer (some ⟨B1, 0, none⟩)]) rfl) rfl rfl rfl ?_
 refine o_as rfl rfl ?_
 refine o_nil (q_then (c_ret ?_))
 refine q_endX (p := (B1)) (rt1 rfl (r_tmp rfl)) rfl (fun w hw => ?_)
 exact hw.pick (H' := [outer w0 [], box B1 [.slice al l.length cl] 22]) [1, 0] (by decide) rfl

set_option maxHeartbeats 8000000 in
set_option maxRecDepth 100000 in
theorem nexts_ok (l : List Int) (al : Option Addr) (cl : Nat) (hy1 : l.length ≤ 1000) : FnM Try.prog 101 [.slice al l.length cl] (fun w => Rd tInt w al cl l) (Option Addr × Nat) (fun p => .slice p.1 (Opt.nexts l).length p.2) (fun p S w => SlO tInt S w p.1 p.2 (Opt.nexts l)) := by
 refine fnMR (nt := 35) (F0 := [(0, .slice al l.length cl)]) Try.func101 rfl Try.ntmps101 rfl rfl (fun w0 hpre => ?_)
 have hl := hpre
 have hlhl := hl.2.1
 refine c_seq (c_region ?_)
 refine o_box (v := .slice al l.length cl) rfl rfl (fun B1 => ?_)
 refine o_as rfl rfl ?_
 refine o_nil (q_then (c_seq (c_region ?_)))
 refine o_pure (p_load (i := 0) (v := .slice al l.length cl) rfl rfl sh22 rfl) rfl rfl rfl ?_
 refine o_pure (p_len_slice (len := l.length) rfl rfl Try.underlying22) rfl rfl rfl ?_
 refine o_makeSlice (T := tInt) (m := (l.length : Int)) (z := 0) rfl rfl Try.underlying22 el3 ze3 rfl (by decide) (by omega) (by omega) rfl (fun S3 a2 => ?_)
 refine o_alloc ze22 rfl (fun B5 => ?_)
 refine o_store (i := 0) (v := .slice a2 (List.replicate ((l.length : Int).toNat) 0).length ((l.length : Int).toNat)) (cs' := [.slice a2 (List.replicate ((l.length : Int).toNat) 0).length ((l.length : Int).toNat)]) rfl rfl rfl sz22 rfl rfl rfl ?_
 refine o_nil (q_then (c_seq (c_region ?_)))
 refine o_makeMap (ν := Int) kInt (fun z : Int => .int .i64 z) rfl (fun B6 => ?_)
 refine o_alloc ze134 rfl (fun B7 => ?_)
 refine o_store (i := 0) (v := .map (some B6)) (cs' := [.map (some B6)]) rfl rfl rfl sz134 rfl rfl rfl ?_
 refine o_nil (q_then (c_seq (c_seq (c_region ?_))))
 refine o_pure (p_load (i := 4) (v := .slice al l.length cl) rfl rfl sh22 rfl) rfl rfl rfl ?_
 refine o_callX (pre := []) (R := [box B7 [.map (some B6)] 134, mapE kInt (fun z : Int => .int .i64 z) B6 ([]), box B5 [.slice a2 (List.replicate ((l.length : Int).toNat) 0).length ((l.length : Int).toNat)] 22, own tInt S3 a2 ((l.length : Int).toNat) (List.replicate ((l.length : Int).toNat) 0), box B1 [.slice al l.length cl] 22, base w0]) rfl (back_ok l al cl) hf132 rfl (fun _ _ => trivial) rfl ?_
 rintro B8
 refine o_asH (H' := [box B8 [.slice al l.length cl] 22, box B7 [.map (some B6)] 134, mapE kInt (fun z : Int => .int .i64 z) B6 ([]), box B5 [.slice a2 (List.replicate ((l.length : Int).toNat) 0).length ((l.length : Int).toNat)] 22, own tInt S3 a2 ((l.length : Int).toNat) (List.replicate ((l.length : Int).toNat) 0), box B1 [.slice al l.length cl] 22, base w0]) rfl ?_
 refine o_nil (q_then (c_block ?_))
 refine c_rangeFunc (f := 143) (caps := [.pointer (some ⟨B8, 0, none⟩)]) (Pr := (fun e w => ((box B8 [.slice al l.length cl] 22).A w ∧ (outer w [e]).S B8) ∧ SlR tInt (outer w [e]).S w al cl l)) (X := Unit) (encs := (fun x k => [.int .i64 ((l.length : Int) - 1 - (k : Int)), .int .i64 (l.getD (l.length - 1 - k) 0)])) (E := (fun x k => [])) (N := l.length) rfl hf143 (back1_ok l al cl B8) (fun _ _ => rfl) (by decide) (St := List Int × Option Addr × Nat × (Nat → Prop) × List (Int × Int))
  (fun ⟨ol, aol, col, Sol, m⟩ => [mapE kInt (fun z : Int => .int .i64 z) B6 m, box B5 [.slice aol ol.length col] 22, own tInt Sol aol col ol])
  (fun k ⟨ol, aol, col, Sol, m⟩ => Opt.NInv l ol m k)
  (fun c ⟨ol, aol, col, Sol, m⟩ => False)
  [box B8 [.slice al l.length cl] 22, box B7 [.map (some B6)] 134, box B1 [.slice al l.length cl] 22, base w0]
  ((List.replicate ((l.length : Int).toNat) 0), a2, (l.length : Int).toNat, S3, []) ?_ ?_ ?_ ?_ ?_ ?_
 ·exact Opt.NInv.start l
 ·exact fun w hw => hw.pick (H' := [mapE kInt (fun z : Int => .int .i64 z) B6 ([]), box B5 [.slice a2 (List.replicate ((l.length : Int).toNat) 0).length ((l.length : Int).toNat)] 22, own tInt S3 a2 ((l.length : Int).toNat) (List.replicate ((l.length : Int).toNat) 0), box B8 [.slice al l.length cl] 22, box B7 [.map (some B6)] 134, box B1 [.slice al l.length cl] 22, base w0]) [2, 3, 4, 0, 1, 5, 6] (by decide) rfl
 ·intro D e0 W1 hW1
  exact ⟨boxX (i := 2) (js := [0]) rfl (by decide) rfl W1 hW1, (rdX (i := 5) (js := [0]) rfl (by decide) rfl (fun _ hA => slR_base hl hA)) W1 hW1⟩
 ·rintro l_ rc D e0 W1 hW1 x_ k ⟨ol, aol, col, Sol, m⟩ hk hI
  have hol := hI.len
  have hor0_1 : SlR tInt (outer W1 [e0]).S W1 al cl l := (rdX (i := 5) (js := [0]) rfl (by decide) rfl (fun _ hA => slR_base hl hA)) W1 hW1
  have hlhor0_1 := hor0_1.2.1
  have hobr0_B1 := boxX (i := 4) (B := B1) (cs := [.slice al l.length cl]) (U := 22) (js := [0]) (pre := [e0]) rfl (by decide) rfl W1 hW1
  have hobr0_B7 := boxX (i := 3) (B := B7) (cs := [.map (some B6)]) (U := 134) (js := [0]) (pre := [e0]) rfl (by decide) rfl W1 hW1
  refine c_seq (c_region ?_)
  refine o_as rfl rfl ?_
  refine o_nil (q_then (c_region ?_))
  refine o_as rfl rfl ?_
  refine o_nil ?_
  refine q_begin (i := 1) rfl ?_
  refine c_block (c_seq (c_region ?_))
  refine o_pure (p_loadR (v := .map (some B6)) rfl (rbox_outer (i := 0) rfl hobr0_B7) sh134 rfl) rfl rfl rfl ?_
  refine o_mv rfl rfl ?_
  refine o_pure (p_lookup2 (i := 2) (K := kInt) (ve := (fun z : Int => .int .i64 z)) (m := m) (k := (l.getD (l.length - 1 - k) 0)) (dflt := 0) rfl rfl rfl Try.underlying134 Try.underlying3 zv3) rfl rfl rfl ?_
  refine o_mv rfl rfl ?_
  refine o_ex rfl rfl rfl ?_
  refine o_ex rfl rfl rfl ?_
  refine o_as rfl rfl ?_
  refine o_as rfl rfl ?_
  refine o_nil (q_then (c_seq (c_seq (c_region ?_))))
  refine o_mv rfl rfl ?_
  refine o_pure (p_not (b := (AL.get m (l.getD (l.length - 1 - k) 0)).isSome) rfl) rfl rfl rfl ?_
  refine o_nil (q_then ?_)
  refine c_cond (b := (!(AL.get m (l.getD (l.length - 1 - k) 0)).isSome)) rfl (fun hc9 => ?_) (fun hc9 => ?_)
  ·simp only [Bool.not_eq_true'] at hc9
   refine c_region ?_
   refine o_pure (p_loadR (v := .slice al l.length cl) rfl (rbox_outer (i := 0) rfl hobr0_B1) sh22 rfl) rfl rfl rfl ?_
   refine o_pure (p_len_slice (len := l.length) rfl rfl Try.underlying22) rfl rfl rfl ?_
   refine o_as rfl rfl ?_
   refine o_nil (q_then ?_)
   refine c_heldR hmix (by decide) (fun _ _ h => h) [outer W1 [e0], loopE l_ (recd rc .busy none), box B5 [.slice aol ol.length col] 22, ownE tInt Sol aol col (ol.length)] rfl rfl ?_
   refine h_tk (i := 0) (ls := #[true, false, false, false, false, false, false, false, false]) rfl (p_load (i := 2) (v := .slice aol ol.length col) rfl rfl sh22 rfl) (fun _ hw => HeapIs.drop (HeapIs.toE (i := 4) (m := ol.length) (T := tInt) rfl (by simp only [List.length_set]) hw) (List.Sublist.cons_cons _ (List.Sublist.cons_cons _ (List.Sublist.cons _ (List.Sublist.cons_cons _ (List.Sublist.cons_cons _ (List.Sublist.slnil))))))) ?_
   refine h_tk (i := 1) (ls := #[true, true, false, false, false, false, false, false, false]) rfl (p_move rfl) (fun _ hw => HeapIs.drop (HeapIs.toE (i := 4) (m := ol.length) (T := tInt) rfl (by simp only [List.length_set]) hw) (List.Sublist.cons_cons _ (List.Sublist.cons_cons _ (List.Sublist.cons _ (List.Sublist.cons_cons _ (List.Sublist.cons_cons _ (List.Sublist.slnil))))))) ?_
   refine h_tk (i := 2) (ls := #[true, true, true, false, false, false, false, false, false]) rfl (p_loadR (v := .map (some B6)) rfl (rbox_outer (i := 0) rfl hobr0_B7) sh134 rfl) (fun _ hw => HeapIs.drop (HeapIs.toE (i := 4) (m := ol.length) (T := tInt) rfl (by simp only [List.length_set]) hw) (List.Sublist.cons_cons _ (List.Sublist.cons_cons _ (List.Sublist.cons _ (List.Sublist.cons_cons _ (List.Sublist.cons_cons _ (List.Sublist.slnil))))))) ?_
   refine h_tk (i := 3) (ls := #[true, true, true, true, false, false, false, false, false]) rfl (p_move rfl) (fun _ hw => HeapIs.drop (HeapIs.toE (i := 4) (m := ol.length) (T := tInt) rfl (by simp only [List.length_set]) hw) (List.Sublist.cons_cons _ (List.Sublist.cons_cons _ (List.Sublist.cons _ (List.Sublist.cons_cons _ (List.Sublist.cons_cons _ (List.Sublist.slnil))))))) ?_
   refine h_tk (i := 4) (ls := #[true, true, true, true, true, false, false, false, false]) rfl (p_move rfl) (fun _ hw => HeapIs.drop (HeapIs.toE (i := 4) (m := ol.length) (T := tInt) rfl (by simp only [List.length_set]) hw) (List.Sublist.cons_cons _ (List.Sublist.cons_cons _ (List.Sublist.cons _ (List.Sublist.cons_cons _ (List.Sublist.cons_cons _ (List.Sublist.slnil))))))) ?_
   refine h_tk (i := 5) (ls := #[true, true, true, true, true, true, false, false, false]) rfl (p_move rfl) (fun _ hw => HeapIs.drop (HeapIs.toE (i := 4) (m := ol.length) (T := tInt) rfl (by simp only [List.length_set]) hw) (List.Sublist.cons_cons _ (List.Sublist.cons_cons _ (List.Sublist.cons _ (List.Sublist.cons_cons _ (List.Sublist.cons_cons _ (List.Sublist.slnil))))))) ?_
   refine h_tk (i := 6) (ls := #[true, true, true, true, true, true, true, false, false]) rfl (p_indexAddrE (T := tInt) (i := ((l.length : Int) - 1 - (k : Int))) (j := 3) rfl rfl rfl Try.underlying22 sz3 (by omega) (by omega)) (fun _ hw => HeapIs.drop (HeapIs.toE (i := 4) (m := ol.length) (T := tInt) rfl (by simp only [List.length_set]) hw) (List.Sublist.cons_cons _ (List.Sublist.cons_cons _ (List.Sublist.cons _ (List.Sublist.cons_cons _ (List.Sublist.cons_cons _ (List.Sublist.slnil))))))) ?_
   refine h_one (i := 7) (ls := #[true, true, true, true, true, true, true, true, false]) (by kernel_rfl) rfl rfl ?_
   refine o_storeW (i := 4) (T := tInt) (idx := ((l.length : Int) - 1 - (k : Int)).toNat) (v := .int .i64 (l.length : Int)) (vs := [.int .i64 (l.length : Int)]) (z := (l.length : Int)) rfl rfl rfl rfl (by first | assumption | omega | (simp only [List.length_set]; omega)) sz3 rfl rfl rfl rfl (Sub.refl _) ?_
   refine o_nil ?_
   refine h_next (fun _ hw => HeapIs.drop (HeapIs.toE (i := 4) (m := ol.length) (T := tInt) rfl (by simp only [List.length_set]) hw) (List.Sublist.cons_cons _ (List.Sublist.cons_cons _ (List.Sublist.cons _ (List.Sublist.cons_cons _ (List.Sublist.cons_cons _ (List.Sublist.slnil))))))) ?_
   refine h_one (i := 8) (ls := #[true, true, true, true, true, true, true, true, true]) (by kernel_rfl) rfl rfl ?_
   refine o_mapUpdate (i := 2) (K := kInt) (ve := (fun z : Int => .int .i64 z)) (m := m) (k := (l.getD (l.length - 1 - k) 0)) (v := ((l.length : Int) - 1 - (k : Int))) rfl rfl rfl rfl Try.underlying134 Try.underlying3 ?_
   refine o_nil ?_
   refine h_next (fun _ hw => HeapIs.drop (HeapIs.toE (i := 4) (m := ol.length) (T := tInt) rfl (by simp only [List.length_set]) hw) (List.Sublist.cons_cons _ (List.Sublist.cons_cons _ (List.Sublist.cons _ (List.Sublist.cons_cons _ (List.Sublist.cons_cons _ (List.Sublist.slnil))))))) ?_
   refine h_done (by kernel_rfl) ?_
   refine q_cast (F' := []) (H := [outer W1 [e0], loopE l_ (recd rc .busy none), mapE kInt (fun z : Int => .int .i64 z) B6 (AL.set m (l.getD (l.length - 1 - k) 0) ((l.length : Int) - 1 - (k : Int))), box B5 [.slice aol ol.length col] 22, own tInt Sol aol col (ol.set (((l.length : Int) - 1 - (k : Int)).toNat) (l.length : Int))]) (H' := [outer W1 [e0], loopE l_ (recd rc .busy none), mapE kInt (fun z : Int => .int .i64 z) B6 (AL.set m (l.getD (l.length - 1 - k) 0) ((l.length : Int) - 1 - (k : Int))), box B5 [.slice aol (ol.set (((l.length : Int) - 1 - (k : Int)).toNat) (l.length : Int)).length col] 22, own tInt Sol aol col (ol.set (((l.length : Int) - 1 - (k : Int)).toNat) (l.length : Int))]) (Sub.nil _) (by simp only [List.length_set, List.length_reverse]) ?_
   refine q_block_normal ?_
   refine q_next ((ol.set (((l.length : Int) - 1 - (k : Int)).toNat) (l.length : Int)), aol, col, Sol, (AL.set m (l.getD (l.length - 1 - k) 0) ((l.length : Int) - 1 - (k : Int)))) ?_ (fun w hw => hw.pick (H' := [outer W1 [e0], loopE l_ (recd rc .busy none), mapE kInt (fun z : Int => .int .i64 z) B6 (AL.set m (l.getD (l.length - 1 - k) 0) ((l.length : Int) - 1 - (k : Int))), box B5 [.slice aol (ol.set (((l.length : Int) - 1 - (k : Int)).toNat) (l.length : Int)).length col] 22, own tInt Sol aol col (ol.set (((l.length : Int) - 1 - (k : Int)).toNat) (l.length : Int))]) [0, 1, 2, 3, 4] (by decide) rfl)
   first | exact hI.next hk rfl rfl (hI.some (by assumption)) | exact hI.next hk rfl rfl (hI.none (by assumption))
  ·simp only [Bool.not_eq_false'] at hc9
   refine c_skip (q_then ?_)
   refine c_heldR hmix (by decide) (fun _ _ h => h) [outer W1 [e0], loopE l_ (recd rc .busy none), box B5 [.slice aol ol.length col] 22, ownE tInt Sol aol col (ol.length)] rfl rfl ?_
   refine h_tk (i := 0) (ls := #[true, false, false, false, false, false, false, false, false]) rfl (p_load (i := 2) (v := .slice aol ol.length col) rfl rfl sh22 rfl) (fun _ hw => HeapIs.drop (HeapIs.toE (i := 4) (m := ol.length) (T := tInt) rfl (by simp only [List.length_set]) hw) (List.Sublist.cons_cons _ (List.Sublist.cons_cons _ (List.Sublist.cons _ (List.Sublist.cons_cons _ (List.Sublist.cons_cons _ (List.Sublist.slnil))))))) ?_
   refine h_tk (i := 1) (ls := #[true, true, false, false, false, false, false, false, false]) rfl (p_move rfl) (fun _ hw => HeapIs.drop (HeapIs.toE (i := 4) (m := ol.length) (T := tInt) rfl (by simp only [List.length_set]) hw) (List.Sublist.cons_cons _ (List.Sublist.cons_cons _ (List.Sublist.cons _ (List.Sublist.cons_cons _ (List.Sublist.cons_cons _ (List.Sublist.slnil))))))) ?_
   refine h_tk (i := 2) (ls := #[true, true, true, false, false, false, false, false, false]) rfl (p_loadR (v := .map (some B6)) rfl (rbox_outer (i := 0) rfl hobr0_B7) sh134 rfl) (fun _ hw => HeapIs.drop (HeapIs.toE (i := 4) (m := ol.length) (T := tInt) rfl (by simp only [List.length_set]) hw) (List.Sublist.cons_cons _ (List.Sublist.cons_cons _ (List.Sublist.cons _ (List.Sublist.cons_cons _ (List.Sublist.cons_cons _ (List.Sublist.slnil))))))) ?_
   refine h_tk (i := 3) (ls := #[true, true, true, true, false, false, false, false, false]) rfl (p_move rfl) (fun _ hw => HeapIs.drop (HeapIs.toE (i := 4) (m := ol.length) (T := tInt) rfl (by simp only [List.length_set]) hw) (List.Sublist.cons_cons _ (List.Sublist.cons_cons _ (List.Sublist.cons _ (List.Sublist.cons_cons _ (List.Sublist.cons_cons _ (List.Sublist.slnil))))))) ?_
   refine h_tk (i := 4) (ls := #[true, true, true, true, true, false, false, false, false]) rfl (p_move rfl) (fun _ hw => HeapIs.drop (HeapIs.toE (i := 4) (m := ol.length) (T := tInt) rfl (by simp only [List.length_set]) hw) (List.Sublist.cons_cons _ (List.Sublist.cons_cons _ (List.Sublist.cons _ (List.Sublist.cons_cons _ (List.Sublist.cons_cons _ (List.Sublist.slnil))))))) ?_
   refine h_tk (i := 5) (ls := #[true, true, true, true, true, true, false, false, false]) rfl (p_move rfl) (fun _ hw => HeapIs.drop (HeapIs.toE (i := 4) (m := ol.length) (T := tInt) rfl (by simp only [List.length_set]) hw) (List.Sublist.cons_cons _ (List.Sublist.cons_cons _ (List.Sublist.cons _ (List.Sublist.cons_cons _ (List.Sublist.cons_cons _ (List.Sublist.slnil))))))) ?_
   refine h_tk (i := 6) (ls := #[true, true, true, true, true, true, true, false, false]) rfl (p_indexAddrE (T := tInt) (i := ((l.length : Int) - 1 - (k : Int))) (j := 3) rfl rfl rfl Try.underlying22 sz3 (by omega) (by omega)) (fun _ hw => HeapIs.drop (HeapIs.toE (i := 4) (m := ol.length) (T := tInt) rfl (by simp only [List.length_set]) hw) (List.Sublist.cons_cons _ (List.Sublist.cons_cons _ (List.Sublist.cons _ (List.Sublist.cons_cons _ (List.Sublist.cons_cons _ (List.Sublist.slnil))))))) ?_
   refine h_one (i := 7) (ls := #[true, true, true, true, true, true, true, true, false]) (by kernel_rfl) rfl rfl ?_
   refine o_storeW (i := 4) (T := tInt) (idx := ((l.length : Int) - 1 - (k : Int)).toNat) (v := .int .i64 ((AL.get m (l.getD (l.length - 1 - k) 0)).getD 0)) (vs := [.int .i64 ((AL.get m (l.getD (l.length - 1 - k) 0)).getD 0)]) (z := ((AL.get m (l.getD (l.length - 1 - k) 0)).getD 0)) rfl rfl rfl rfl (by first | assumption | omega | (simp only [List.length_set]; omega)) sz3 rfl rfl rfl rfl (Sub.refl _) ?_
   refine o_nil ?_
   refine h_next (fun _ hw => HeapIs.drop (HeapIs.toE (i := 4) (m := ol.length) (T := tInt) rfl (by simp only [List.length_set]) hw) (List.Sublist.cons_cons _ (List.Sublist.cons_cons _ (List.Sublist.cons _ (List.Sublist.cons_cons _ (List.Sublist.cons_cons _ (List.Sublist.slnil))))))) ?_
   refine h_one (i := 8) (ls := #[true, true, true, true, true, true, true, true, true]) (by kernel_rfl) rfl rfl ?_
   refine o_mapUpdate (i := 2) (K := kInt) (ve := (fun z : Int => .int .i64 z)) (m := m) (k := (l.getD (l.length - 1 - k) 0)) (v := ((l.length : Int) - 1 - (k : Int))) rfl rfl rfl rfl Try.underlying134 Try.underlying3 ?_
   refine o_nil ?_
   refine h_next (fun _ hw => HeapIs.drop (HeapIs.toE (i := 4) (m := ol.length) (T := tInt) rfl (by simp only [List.length_set]) hw) (List.Sublist.cons_cons _ (List.Sublist.cons_cons _ (List.Sublist.cons _ (List.Sublist.cons_cons _ (List.Sublist.cons_cons _ (List.Sublist.slnil))))))) ?_
   refine h_done (by kernel_rfl) ?_
   refine q_cast (F' := []) (H := [outer W1 [e0], loopE l_ (recd rc .busy none), mapE kInt (fun z : Int => .int .i64 z) B6 (AL.set m (l.getD (l.length - 1 - k) 0) ((l.length : Int) - 1 - (k : Int))), box B5 [.slice aol ol.length col] 22, own tInt Sol aol col (ol.set (((l.length : Int) - 1 - (k : Int)).toNat) ((AL.get m (l.getD (l.length - 1 - k) 0)).getD 0))]) (H' := [outer W1 [e0], loopE l_ (recd rc .busy none), mapE kInt (fun z : Int => .int .i64 z) B6 (AL.set m (l.getD (l.length - 1 - k) 0) ((l.length : Int) - 1 - (k : Int))), box B5 [.slice aol (ol.set (((l.length : Int) - 1 - (k : Int)).toNat) ((AL.get m (l.getD (l.length - 1 - k) 0)).getD 0)).length col] 22, own tInt Sol aol col (ol.set (((l.length : Int) - 1 - (k : Int)).toNat) ((AL.get m (l.getD (l.length - 1 - k) 0)).getD 0))]) (Sub.nil _) (by simp only [List.length_set, List.length_reverse]) ?_
   refine q_block_normal ?_
   refine q_next ((ol.set (((l.length : Int) - 1 - (k : Int)).toNat) ((AL.get m (l.getD (l.length - 1 - k) 0)).getD 0)), aol, col, Sol, (AL.set m (l.getD (l.length - 1 - k) 0) ((l.length : Int) - 1 - (k : Int)))) ?_ (fun w hw => hw.pick (H' := [outer W1 [e0], loopE l_ (recd rc .busy none), mapE kInt (fun z : Int => .int .i64 z) B6 (AL.set m (l.getD (l.length - 1 - k) 0) ((l.length : Int) - 1 - (k : Int))), box B5 [.slice aol (ol.set (((l.length : Int) - 1 - (k : Int)).toNat) ((AL.get m (l.getD (l.length - 1 - k) 0)).getD 0)).length col] 22, own tInt Sol aol col (ol.set (((l.length : Int) - 1 - (k : Int)).toNat) ((AL.get m (l.getD (l.length - 1 - k) 0)).getD 0))]) [0, 1, 2, 3, 4] (by decide) rfl)
   first | exact hI.next hk rfl rfl (hI.some (by assumption)) | exact hI.next hk rfl rfl (hI.none (by assumption))
 ·rintro D ⟨ol, aol, col, Sol, m⟩ hI
  show SQ _ 35 w0 _ _ _ [defE D, mapE kInt (fun z : Int => .int .i64 z) B6 m, box B5 [.slice aol ol.length col] 22, own tInt Sol aol col ol, box B8 [.slice al l.length cl] 22, box B7 [.map (some B6)] 134, box B1 [.slice al l.length cl] 22, base w0]
  refine q_block_normal (q_then ?_)
  refine c_seq (c_region ?_)
  refine o_pure (p_load (i := 2) (v := .slice aol ol.length col) rfl rfl sh22 rfl) rfl rfl rfl ?_
  refine o_as rfl rfl ?_
  refine o_nil (q_then (c_ret ?_))
  refine q_marks (i := 0) rfl ?_
  show SQ _ 35 w0 _ _ _ [mapE kInt (fun z : Int => .int .i64 z) B6 m, box B5 [.slice aol ol.length col] 22, own tInt Sol aol col ol, box B8 [.slice al l.length cl] 22, box B7 [.map (some B6)] 134, box B1 [.slice al l.length cl] 22, base w0]
  refine q_marks0 ?_
  have hr0 : (ol : List Int) = (Opt.nexts l) := by
   exact hI.done
  refine q_endM (p := (aol, col)) Sol (rt1 rfl (r_tmp rfl)) (i := 6) rfl ?_ ?_ ?_
  ·exact (by have hcc := congrArg (fun (y0 : List Int) => (.slice aol y0.length col : Value)) hr0; exact hcc)
  ·exact fun w hw => hw.above (i := 6) (j := 2) (by decide) rfl rfl
  ·intro w hw; exact Eq.mp (congrArg (fun y => SlO tInt _ w aol col y) hr0) ((hw.at (i := 2) rfl).here)
 ·intro D c s h; exact h.elim

set_option maxHeartbeats 8000000 in
set_option maxRecDepth 100000 in
theorem farthest_ok (m : List (Int × Int)) (Bm : Nat) (hy1 : ∀ p ∈ m, 0 ≤ p.2) : Fn0 Try.prog 102 [.map (some Bm)] (fun w => MapIs kInt (fun z : Int => .int .i64 z) Bm m w) (.int .i64 (Opt.far m)) := by
 refine fn0 (nt := 30) (F0 := [(0, .map (some Bm))]) Try.func102 rfl Try.ntmps102 rfl rfl (fun w0 hpre => ?_)
 have hm := hpre
 obtain ⟨es_hm, cl_hm, hm_1, hm_2, hm_3⟩ : ∃ es c, _ ∧ _ ∧ _ := (id hm)
 refine c_seq (c_region ?_)
 refine o_as rfl rfl ?_
 refine o_nil (q_then (c_seq (c_region ?_)))
 refine o_as rfl rfl ?_
 refine o_as rfl rfl ?_
 refine o_nil (q_then (c_seq (c_seq (c_region ?_))))
 refine o_mv rfl rfl ?_
 refine o_range (K := kInt) (ve := (fun z : Int => .int .i64 z)) (m := m) rfl (blk_base (i := 0) rfl hm_1) hm_2 hm_3 Try.underlying135 rfl (fun B1 => ?_)
 refine o_nil (q_then (c_block ?_))
 refine c_loop (St := Int × Int × List (Int × Int) × Option (Int × Int))
  (fun ⟨best, when_, lf, lfc⟩ => [(3, .int .i64 best), (4, .int .i64 when_), (8, .pointer (some ⟨B1, 0, none⟩))])
  (fun ⟨best, when_, lf, lfc⟩ => [iterE kInt (fun z : Int => .int .i64 z) B1 Bm es_hm cl_hm lf lfc, base w0])
  (fun ⟨best, when_, lf, lfc⟩ => Opt.FI m lf best when_)
  (fun ⟨best, when_, lf, lfc⟩ => lf.length)
  ((-1), (-1), m, none) ?_ (Sub.cons rfl (Sub.cons rfl (Sub.cons rfl (Sub.nil _)))) (fun _ hw => hw) ?_
 ·exact Opt.FI.start m
 rintro ⟨best, when_, lf, lfc⟩ hI K hK2
 show SC _ _ Try.prog 30 w0 _ _ [(3, .int .i64 best), (4, .int .i64 when_), (8, .pointer (some ⟨B1, 0, none⟩))] [iterE kInt (fun z : Int => .int .i64 z) B1 Bm es_hm cl_hm lf lfc, base w0]
 refine c_seq (c_region ?_)
 refine o_next (i := 0) rfl rfl (blk_base (i := 1) rfl hm_1) hm_3 rfl ?_ ?_
 ·intro hnil
  refine o_ex rfl rfl rfl ?_
  refine o_nil (q_then (c_seq ?_))
  refine c_false rfl ?_
  refine c_exit ?_
  refine q_then_exit (q_then_exit (q_block_exit (q_then ?_)))
  refine c_seq (c_region ?_)
  refine o_mv rfl rfl ?_
  refine o_as rfl rfl ?_
  refine o_nil (q_then (c_ret ?_))
  have hr0 : (best : Int) = (Opt.far m) := by
   exact hI.done hnil hy1
  refine q_end0 (v := .int .i64 best) (rt1 rfl (r_tmp rfl)) (i := 1) rfl ?_
  exact (by have hcc := congrArg (fun (y0 : Int) => (.int .i64 y0 : Value)) hr0; exact hcc)
 ·rintro xe xA xC hxs
  refine o_ex rfl rfl rfl ?_
  refine o_nil (q_then (c_seq ?_))
  refine c_true rfl ?_
  refine c_skip (q_then (c_block (c_seq (c_region ?_))))
  refine o_pure (p_entry (K := kInt) (ve := (fun z : Int => .int .i64 z)) (p := xe) (i := 0) rfl rfl (blk_base (i := 1) rfl hm_1) hm_3) rfl rfl rfl ?_
  refine o_ex rfl rfl rfl ?_
  refine o_ex rfl rfl rfl ?_
  refine o_as rfl rfl ?_
  refine o_as rfl rfl ?_
  refine o_nil (q_then (c_seq (c_region ?_)))
  refine o_mv rfl rfl ?_
  refine o_mv rfl rfl ?_
  refine o_pure (p_gt (p := xe.2) (q := when_) rfl rfl) rfl rfl rfl ?_
  refine o_mv rfl rfl ?_
  refine o_or (p := 26) 9 ((xe.2 == when_) && decide (xe.1 < best)) ?_ ?_ ?_
  ·intro hb3 hk
   simp only [decide_eq_false_iff_not, Int.not_lt] at hb3
   refine o_unguard 17 rfl rfl ?_
   refine o_mv rfl rfl ?_
   refine o_unguard 17 rfl rfl ?_
   refine o_mv rfl rfl ?_
   refine o_unguard 17 rfl rfl ?_
   refine o_pure (p_eq (p := xe.2) (q := when_) rfl rfl) rfl rfl rfl ?_
   refine o_unguard 17 rfl rfl ?_
   refine o_mv rfl rfl ?_
   refine o_and (p := 25) 4 (decide (xe.1 < best)) ?_ ?_ ?_
   ·intro hb4 hk
    simp only [beq_iff_eq] at hb4
    refine o_unguard 21 rfl rfl ?_
    refine o_mv rfl rfl ?_
    refine o_unguard 21 rfl rfl ?_
    refine o_mv rfl rfl ?_
    refine o_unguard 21 rfl rfl ?_
    refine o_pure (p_lt (p := xe.1) (q := best) rfl rfl) rfl rfl rfl ?_
    refine o_unguard 17 rfl rfl ?_
    refine o_pt rfl rfl rfl ?_
    exact o_sub (Sub.cons rfl (Sub.skip rfl (Sub.skip rfl (Sub.skip rfl (Sub.skip rfl (Sub.skip rfl (Sub.refl _))))))) hk
   ·intro hb4 hk
    refine o_guard_no rfl 21 rfl rfl rfl rfl rfl ?_
    refine o_guard_no rfl 21 rfl rfl rfl rfl rfl ?_
    refine o_guard_no rfl 21 rfl rfl rfl rfl rfl ?_
    refine o_unguard 17 rfl rfl ?_
    refine o_pf rfl rfl rfl ?_
    exact o_sub (Sub.cons rfl (Sub.skip rfl (Sub.skip rfl (Sub.skip rfl (Sub.skip rfl (Sub.skip rfl (Sub.refl _))))))) hk
   refine o_pf rfl rfl rfl ?_
   exact o_sub (Sub.cons rfl (Sub.skip rfl (Sub.skip rfl (Sub.skip rfl (Sub.skip rfl (Sub.skip rfl (Sub.skip rfl (Sub.refl _)))))))) hk
  ·intro hb3 hk
   refine o_guard_no rfl 17 rfl rfl rfl rfl rfl ?_
   refine o_guard_no rfl 17 rfl rfl rfl rfl rfl ?_
   refine o_guard_no rfl 17 rfl rfl rfl rfl rfl ?_
   refine o_guard_no rfl 17 rfl rfl rfl rfl rfl ?_
   refine o_guard_no rfl 21 rfl rfl rfl rfl rfl ?_
   refine o_guard_no rfl 21 rfl rfl rfl rfl rfl ?_
   refine o_guard_no rfl 21 rfl rfl rfl rfl rfl ?_
   refine o_guard_no rfl 17 rfl rfl rfl rfl rfl ?_
   refine o_pt rfl rfl rfl ?_
   exact o_sub (Sub.cons rfl (Sub.skip rfl (Sub.skip rfl (Sub.skip rfl (Sub.skip rfl (Sub.skip rfl (Sub.skip rfl (Sub.skip rfl (Sub.skip rfl (Sub.skip rfl (Sub.skip rfl (Sub.refl _)))))))))))) hk
  refine o_nil (q_then ?_)
  refine c_cond (b := (decide (when_ < xe.2) || ((xe.2 == when_) && decide (xe.1 < best)))) rfl (fun hc5 => ?_) (fun hc5 => ?_)
  ·simp only [Bool.or_eq_true, decide_eq_true_eq, Bool.and_eq_true, beq_iff_eq] at hc5
   have hpk := hc5
   refine c_region ?_
   refine o_mv rfl rfl ?_
   refine o_mv rfl rfl ?_
   refine o_as rfl rfl ?_
   refine o_as rfl rfl ?_
   refine o_nil ?_
   refine q_block_normal ?_
   refine q_round hK2 (xe.1, xe.2, (xA ++ xC), (some xe)) ?_ ?_ ?_ ?_
   ·clear hK2
    first | exact hI.take_ hxs hy1 (by omega) | exact hI.skip hxs hy1 (by omega)
   ·(try dsimp only); rw [hxs]; simp only [List.length_append, List.length_cons]; omega
   ·exact Sub.cons rfl (Sub.cons rfl (Sub.cons rfl (Sub.nil _)))
   ·exact fun _ hw => HeapIs.pick hw [0, 1] (by decide) rfl
  ·simp only [Bool.or_eq_false_iff, decide_eq_false_iff_not, Int.not_lt, Bool.and_eq_false_iff, beq_eq_false_iff_ne, ne_eq] at hc5
   have hpk := hc5
   refine c_skip ?_
   refine q_block_normal ?_
   refine q_round hK2 (best, when_, (xA ++ xC), (some xe)) ?_ ?_ ?_ ?_
   ·clear hK2
    first | exact hI.take_ hxs hy1 (by omega) | exact hI.skip hxs hy1 (by omega)
   ·(try dsimp only); rw [hxs]; simp only [List.length_append, List.length_cons]; omega
   ·exact Sub.cons rfl (Sub.cons rfl (Sub.cons rfl (Sub.nil _)))
   ·exact fun _ hw => HeapIs.pick hw [0, 1] (by decide) rfl

set_option maxHeartbeats 8000000 in
set_option maxRecDepth 100000 in
theorem oevict_ok (l : List Int) (al : Option Addr) (cl : Nat) (room : Int) : FnM Try.prog 72 [.slice al l.length cl, .int .i64 room] (fun w => Rd tInt w al cl l) (Option Addr × Nat) (fun p => .tuple #[.slice p.1 ((Opt.ev l room).1).length p.2, .int .i64 ((Opt.ev l room).2), .int .i64 (Opt.evErr l room)]) (fun p S w => SlO tInt S w p.1 p.2 ((Opt.ev l room).1)) := by
 refine fnM (nt := 70) (F0 := [(0, .slice al l.length cl), (1, .int .i64 room)]) Try.func72 rfl Try.ntmps72 rfl rfl (fun w0 hpre => ?_)
 have hl := hpre
 have hlhl := hl.2.1
 refine c_seq (c_region ?_)
 refine o_as rfl rfl ?_
 refine o_as rfl rfl ?_
 refine o_as rfl rfl ?_
 refine o_nil (q_then (c_seq (c_region ?_)))
 refine o_mv rfl rfl ?_
 refine o_call0 (v := .int .i64 (Lru.trace l)) rfl (checkTrace_ok l al cl) hf46 (fun w hw => (rd_base (i := 0) rfl hl) w hw) rfl ?_
 refine o_as rfl rfl ?_
 refine o_nil (q_then (c_seq (c_seq (c_region ?_))))
 refine o_mv rfl rfl ?_
 refine o_pure (p_eq (p := (Lru.trace l)) (q := 0) rfl rfl) rfl rfl rfl ?_
 refine o_mv rfl rfl ?_
 refine o_and (p := 25) 4 (!(Lru.okRoom room)) ?_ ?_ ?_
 ·intro hb1 hk
  simp only [beq_iff_eq] at hb1
  refine o_unguard 21 rfl rfl ?_
  refine o_mv rfl rfl ?_
  refine o_unguard 21 rfl rfl ?_
  refine o_call0 (v := .bool (Lru.okRoom room)) rfl (room_ok room) hf78 (fun _ _ => trivial) rfl ?_
  refine o_unguard 21 rfl rfl ?_
  refine o_pure (p_not (b := (Lru.okRoom room)) rfl) rfl rfl rfl ?_
  refine o_pt rfl rfl rfl ?_
  exact o_sub (Sub.cons rfl (Sub.skip rfl (Sub.skip rfl (Sub.skip rfl (Sub.skip rfl (Sub.skip rfl (Sub.refl _))))))) hk
 ·intro hb1 hk
  refine o_guard_no rfl 21 rfl rfl rfl rfl rfl ?_
  refine o_guard_no rfl 21 rfl rfl rfl rfl rfl ?_
  refine o_guard_no rfl 21 rfl rfl rfl rfl rfl ?_
  refine o_pf rfl rfl rfl ?_
  exact o_sub (Sub.cons rfl (Sub.skip rfl (Sub.skip rfl (Sub.skip rfl (Sub.skip rfl (Sub.skip rfl (Sub.refl _))))))) hk
 refine o_nil (q_then ?_)
 refine c_cond (b := (((Lru.trace l) == 0) && (!(Lru.okRoom room)))) rfl (fun hc2 => ?_) (fun hc2 => ?_)
 ·simp only [Bool.and_eq_true, beq_iff_eq, Bool.not_eq_true'] at hc2
  have hbad := hc2
  refine c_region ?_
  refine o_as rfl rfl ?_
  refine o_nil (q_then (c_seq (c_seq (c_region ?_))))
  refine o_mv rfl rfl ?_
  refine o_pure (p_ne (p := 3) (q := 0) rfl rfl) rfl rfl rfl ?_
  refine o_nil (q_then ?_)
  refine c_true rfl ?_
  refine c_seq (c_region ?_)
  refine o_mv rfl rfl ?_
  refine o_as rfl rfl ?_
  refine o_as rfl rfl ?_
  refine o_as rfl rfl ?_
  refine o_nil (q_then (c_ret ?_))
  refine q_then_ret ?_
  obtain ⟨hv1, hv2⟩ : _ ∧ _ := by first | exact Opt.ev2 (room := room) hbad.1 hbad.2 | exact Opt.ev3 (room := room) htr hrk | exact Opt.ev1 (room := room) (by assumption)
  have hr0 : ([] : List Int) = ((Opt.ev l room).1) := by
   first | (rw [hv1]; done) | exact hv2.symm | (rw [hv1, ← hdn]; done)
  have hr1 : (0 : Int) = ((Opt.ev l room).2) := by
   first | (rw [hv1]; done) | exact hv2.symm | (rw [hv1, ← hdn]; done)
  have hr2 : (3 : Int) = (Opt.evErr l room) := by
   first | (rw [hv1]; done) | exact hv2.symm | (rw [hv1, ← hdn]; done)
  refine q_endM (p := (none, 0)) (fun _ => False) (rt3 rfl (r_tmp rfl) (r_tmp rfl) (r_tmp rfl)) (i := 0) rfl ?_ ?_ ?_
  ·exact (by have hcc := congr (congr (congrArg (fun (y0 : List Int) (y1 : Int) (y2 : Int) => (.tuple #[.slice none y0.length 0, .int .i64 y1, .int .i64 y2] : Value)) hr0) hr1) hr2; exact hcc)
  ·intro w hw b hb; exact hb.elim
  ·intro w hw; exact Eq.mp (congrArg (fun y => SlO tInt _ w none 0 y) hr0) (SlO.nil tInt w)
 ·simp only [Bool.and_eq_false_iff, beq_eq_false_iff_ne, ne_eq, Bool.not_eq_false'] at hc2
  have hro := hc2
  refine c_skip (q_then (c_seq (c_seq (c_region ?_))))
  refine o_mv rfl rfl ?_
  refine o_pure (p_ne (p := (Lru.trace l)) (q := 0) rfl rfl) rfl rfl rfl ?_
  refine o_nil (q_then ?_)
  refine c_cond (b := ((Lru.trace l) != 0)) rfl (fun hc3 => ?_) (fun hc3 => ?_)
  ·simp only [bne_iff_ne, ne_eq] at hc3
   refine c_seq (c_region ?_)
   refine o_mv rfl rfl ?_
   refine o_as rfl rfl ?_
   refine o_as rfl rfl ?_
   refine o_as rfl rfl ?_
   refine o_nil (q_then (c_ret ?_))
   refine q_then_ret ?_
   obtain ⟨hv1, hv2⟩ : _ ∧ _ := by first | exact Opt.ev2 (room := room) hbad.1 hbad.2 | exact Opt.ev3 (room := room) htr hrk | exact Opt.ev1 (room := room) (by assumption)
   have hr0 : ([] : List Int) = ((Opt.ev l room).1) := by
    first | (rw [hv1]; done) | exact hv2.symm | (rw [hv1, ← hdn]; done)
   have hr1 : (0 : Int) = ((Opt.ev l room).2) := by
    first | (rw [hv1]; done) | exact hv2.symm | (rw [hv1, ← hdn]; done)
   have hr2 : ((Lru.trace l) : Int) = (Opt.evErr l room) := by
    first | (rw [hv1]; done) | exact hv2.symm | (rw [hv1, ← hdn]; done)
   refine q_endM (p := (none, 0)) (fun _ => False) (rt3 rfl (r_tmp rfl) (r_tmp rfl) (r_tmp rfl)) (i := 0) rfl ?_ ?_ ?_
   ·exact (by have hcc := congr (congr (congrArg (fun (y0 : List Int) (y1 : Int) (y2 : Int) => (.tuple #[.slice none y0.length 0, .int .i64 y1, .int .i64 y2] : Value)) hr0) hr1) hr2; exact hcc)
   ·intro w hw b hb; exact hb.elim
   ·intro w hw; exact Eq.mp (congrArg (fun y => SlO tInt _ w none 0 y) hr0) (SlO.nil tInt w)
  ·simp only [bne_eq_false_iff_eq] at hc3
   have htr := hc3
   have h200 := (Lru.trace_ok.1 htr).1
   have hrk := hro.resolve_left (fun h => h htr)
   have hrm := Lru.room_ok hrk
   have hnl := Opt.nexts_len l
   refine c_skip (q_then (c_seq (c_region ?_)))
   refine o_mv rfl rfl ?_
   refine o_callM rfl (nexts_ok l al cl (by omega)) hf101 (fun w hw => (rd_base (i := 0) rfl hl) w hw) rfl (fun _ _ _ _ ha hA => SlO.agree ha hA) ?_
   rintro ⟨a6, c7⟩ S4
   refine o_know (fun w hw => own_len (i := 0) (T := tInt) hw rfl) (fun hlr8 => ?_)
   refine o_as rfl rfl ?_
   refine o_nil (q_then (c_seq (c_region ?_)))
   refine o_makeMap (ν := Int) kInt (fun z : Int => .int .i64 z) rfl (fun B9 => ?_)
   refine o_as rfl rfl ?_
   refine o_as rfl rfl ?_
   refine o_nil (q_then (c_seq (c_region ?_)))
   refine o_as rfl rfl ?_
   refine o_nil (q_then (c_seq (c_seq (c_region ?_))))
   refine o_mv rfl rfl ?_
   refine o_pure (p_len_slice (len := l.length) rfl rfl Try.underlying22) rfl rfl rfl ?_
   refine o_mv rfl rfl ?_
   refine o_nil (q_then (c_block ?_))
   refine c_ownNil tInt ?_
   refine c_loop (St := Int × List Int × Option Addr × Nat × (Nat → Prop) × Nat × List (Int × Int))
    (fun ⟨misses, out, aout, cout, Sout, k, m⟩ => [(1, .int .i64 room), (8, .slice a6 (Opt.nexts l).length c7), (9, .map (some B9)), (10, .int .i64 misses), (11, .slice aout out.length cout), (32, .slice al l.length cl), (33, .int .i64 (l.length : Int)), (34, .int .i64 (k : Int))])
    (fun ⟨misses, out, aout, cout, Sout, k, m⟩ => [own tInt Sout aout cout out, mapE kInt (fun z : Int => .int .i64 z) B9 m, own tInt S4 a6 c7 (Opt.nexts l), base w0])
    (fun ⟨misses, out, aout, cout, Sout, k, m⟩ => Opt.EInv l room m out misses k)
    (fun ⟨misses, out, aout, cout, Sout, k, m⟩ => l.length - k)
    (0, [], none, 0, (fun _ => False), 0, []) ?_ (Sub.cons rfl (Sub.cons rfl (Sub.cons rfl (Sub.cons rfl (Sub.cons rfl (Sub.cons rfl (Sub.cons rfl (Sub.cons rfl (Sub.nil _))))))))) (fun _ hw => hw) ?_
   ·exact Opt.EInv.start l room
   rintro ⟨misses, out, aout, cout, Sout, k, m⟩ hI K hK11
   obtain ⟨hol, hm0, hm1⟩ := hI.bd hrm.1
   have hkl := hI.le
   show SC _ _ Try.prog 70 w0 _ _ [(1, .int .i64 room), (8, .slice a6 (Opt.nexts l).length c7), (9, .map (some B9)), (10, .int .i64 misses), (11, .slice aout out.length cout), (32, .slice al l.length cl), (33, .int .i64 (l.length : Int)), (34, .int .i64 (k : Int))] [own tInt Sout aout cout out, mapE kInt (fun z : Int => .int .i64 z) B9 m, own tInt S4 a6 c7 (Opt.nexts l), base w0]
   refine c_seq (c_region ?_)
   refine o_pure (p_lt (p := (k : Int)) (q := (l.length : Int)) rfl rfl) rfl rfl rfl ?_
   refine o_nil (q_then (c_seq ?_))
   refine c_cond (b := decide ((k : Int) < (l.length : Int))) rfl (fun hc12 => ?_) (fun hc12 => ?_)
   ·simp only [decide_eq_true_eq] at hc12
    have hnx := Opt.nexts_at (l := l) (i := k) (by omega) (by omega)
    refine c_skip (q_then (c_seq (c_block (c_seq (c_region ?_)))))
    refine o_mv rfl rfl ?_
    refine o_pure (p_indexAddr (L := l) (T := tInt) (i := (k : Int)) rfl rfl (rd_base (i := 3) rfl hl) Try.underlying22 sz3 (by omega) (by omega)) rfl rfl rfl ?_
    refine o_pure (p_loadE1 (i := k) (T := tInt) (L := l) (v := .int .i64 (l[k])) rfl (rd_base (i := 3) rfl hl) (by first | assumption | omega) sh3 rfl) rfl rfl rfl ?_
    refine o_as rfl rfl ?_
    refine o_as rfl rfl ?_
    refine o_nil (q_then (c_seq (c_region ?_)))
    refine o_as rfl rfl ?_
    refine o_nil (q_then (c_seq (c_seq (c_region ?_))))
    refine o_mv rfl rfl ?_
    refine o_mv rfl rfl ?_
    refine o_pure (p_lookup2 (i := 1) (K := kInt) (ve := (fun z : Int => .int .i64 z)) (m := m) (k := l[k]) (dflt := 0) rfl rfl rfl Try.underlying135 Try.underlying3 zv3) rfl rfl rfl ?_
    refine o_mv rfl rfl ?_
    refine o_ex rfl rfl rfl ?_
    refine o_ex rfl rfl rfl ?_
    refine o_as rfl rfl ?_
    refine o_as rfl rfl ?_
    refine o_nil (q_then (c_seq (c_region ?_)))
    refine o_mv rfl rfl ?_
    refine o_pure (p_not (b := (AL.get m (l[k])).isSome) rfl) rfl rfl rfl ?_
    refine o_nil (q_then ?_)
    refine c_cond (b := (!(AL.get m (l[k])).isSome)) rfl (fun hc13 => ?_) (fun hc13 => ?_)
    ·simp only [Bool.not_eq_true'] at hc13
     refine c_seq (c_region ?_)
     refine o_mv rfl rfl ?_
     refine o_pure (p_addb (p := misses) (q := 1) rfl rfl (by omega)) rfl rfl rfl ?_
     refine o_as rfl rfl ?_
     refine o_nil (q_then (c_seq (c_region ?_)))
     refine o_mv rfl rfl ?_
     refine o_pure (p_len_map (i := 1) (K := kInt) (ve := (fun z : Int => .int .i64 z)) (m := m) rfl rfl rfl Try.underlying135) rfl rfl rfl ?_
     refine o_mv rfl rfl ?_
     refine o_pure (p_eq (p := (m.length : Int)) (q := room) rfl rfl) rfl rfl rfl ?_
     refine o_nil (q_then ?_)
     refine c_cond (b := ((m.length : Int) == room)) rfl (fun hc14 => ?_) (fun hc14 => ?_)
     ·simp only [beq_iff_eq] at hc14
      refine c_seq (c_region ?_)
      refine o_mv rfl rfl ?_
      refine o_call0 (v := .int .i64 (Opt.far m)) rfl (farthest_ok m B9 (by first | assumption | exact hI.pos)) hf102 (fun w hw => rmap_own (i := 1) rfl w hw) rfl ?_
      refine o_as rfl rfl ?_
      refine o_nil (q_then (c_region ?_))
      refine o_mv rfl rfl ?_
      refine o_mv rfl rfl ?_
      refine o_delete (i := 1) (K := kInt) (ve := (fun z : Int => .int .i64 z)) (m := m) (k := (Opt.far m)) rfl rfl rfl rfl Try.underlying135 Try.underlying3 ?_
      refine o_nil (q_then (c_seq (c_region ?_)))
      refine o_mv rfl rfl ?_
      refine o_mv rfl rfl ?_
      refine o_mv rfl rfl ?_
      refine o_mv rfl rfl ?_
      refine o_pure (p_indexAddr (L := (Opt.nexts l)) (T := tInt) (i := (k : Int)) rfl rfl (rd_own (i := 2) rfl) Try.underlying22 sz3 (by omega) (by omega)) rfl rfl rfl ?_
      refine o_pure (p_loadE1 (i := k) (T := tInt) (L := (Opt.nexts l)) (v := .int .i64 ((Opt.nexts l)[k])) rfl (rd_own (i := 2) rfl) (by first | assumption | omega) sh3 rfl) rfl rfl rfl ?_
      refine o_mapUpdate (i := 1) (K := kInt) (ve := (fun z : Int => .int .i64 z)) (m := (AL.del m (Opt.far m))) (k := l[k]) (v := (Opt.nexts l)[k]) rfl rfl rfl rfl Try.underlying135 Try.underlying3 ?_
      refine o_nil (q_then (c_region ?_))
      refine o_mv rfl rfl ?_
      refine o_mv rfl rfl ?_
      refine o_buildSlice (m := 1) (T := tInt) (L := [(Opt.far m)]) (vs := [.int .i64 (Opt.far m)]) rfl rfl rfl rfl Try.underlying22 sz3 (by decide) ze3 rfl (by decide) rfl (fun S15 a16 => ?_)
      refine o_append (i := 1) (L := out) (M := [(Opt.far m)]) (T := tInt) rfl rfl rfl (rd_own (i := 0) rfl) Try.underlying22 Try.underlying22 (by intro k h; cases h) el3 (by intro z; simp [tInt, one1]) (by decide) (by first | omega | (simp only [List.length_cons, List.length_nil]; omega) | (simp only [List.length_append, List.length_cons, List.length_nil, List.length_take, List.length_drop]; omega)) rfl (fun a18 c19 S20 => ?_)
      refine o_as rfl rfl ?_
      refine o_nil ?_
      refine q_block_normal (q_then ?_)
      refine c_region ?_
      refine o_pure (p_addb (p := (k : Int)) (q := 1) rfl rfl (by omega)) rfl rfl rfl ?_
      refine o_mv rfl rfl ?_
      refine o_nil ?_
      refine q_round hK11 ((misses + 1), (out ++ [(Opt.far m)]), a18, c19, S20, k + 1, (AL.set (AL.del m (Opt.far m)) (l[k]) ((Opt.nexts l)[k]))) ?_ ?_ ?_ ?_
      ·clear hK11
       first | exact hI.hit hrm.1 (by omega) (by assumption) hnx | exact hI.evict hrm.1 (by omega) (by assumption) (by assumption) hnx | exact hI.add hrm.1 (by omega) (by assumption) (by assumption) hnx
      ·(try dsimp only); omega
      ·exact Sub.cons rfl (Sub.cons rfl (Sub.cons rfl (Sub.cons rfl (Sub.cons rfl (Sub.cons rfl (Sub.cons rfl (Sub.cons rfl (Sub.nil _))))))))
      ·exact fun _ hw => HeapIs.pick hw [1, 2, 3, 4] (by decide) rfl
     ·simp only [beq_eq_false_iff_ne, ne_eq] at hc14
      refine c_skip (q_then (c_seq (c_region ?_)))
      refine o_mv rfl rfl ?_
      refine o_mv rfl rfl ?_
      refine o_mv rfl rfl ?_
      refine o_mv rfl rfl ?_
      refine o_pure (p_indexAddr (L := (Opt.nexts l)) (T := tInt) (i := (k : Int)) rfl rfl (rd_own (i := 2) rfl) Try.underlying22 sz3 (by omega) (by omega)) rfl rfl rfl ?_
      refine o_pure (p_loadE1 (i := k) (T := tInt) (L := (Opt.nexts l)) (v := .int .i64 ((Opt.nexts l)[k])) rfl (rd_own (i := 2) rfl) (by first | assumption | omega) sh3 rfl) rfl rfl rfl ?_
      refine o_mapUpdate (i := 1) (K := kInt) (ve := (fun z : Int => .int .i64 z)) (m := m) (k := l[k]) (v := (Opt.nexts l)[k]) rfl rfl rfl rfl Try.underlying135 Try.underlying3 ?_
      refine o_nil (q_then (c_region ?_))
      refine o_mv rfl rfl ?_
      refine o_mv rfl rfl ?_
      refine o_buildSlice (m := 1) (T := tInt) (L := [(-1)]) (vs := [.int .i64 (-1)]) rfl rfl rfl rfl Try.underlying22 sz3 (by decide) ze3 rfl (by decide) rfl (fun S21 a22 => ?_)
      refine o_append (i := 1) (L := out) (M := [(-1)]) (T := tInt) rfl rfl rfl (rd_own (i := 0) rfl) Try.underlying22 Try.underlying22 (by intro k h; cases h) el3 (by intro z; simp [tInt, one1]) (by decide) (by first | omega | (simp only [List.length_cons, List.length_nil]; omega) | (simp only [List.length_append, List.length_cons, List.length_nil, List.length_take, List.length_drop]; omega)) rfl (fun a24 c25 S26 => ?_)
      refine o_as rfl rfl ?_
      refine o_nil ?_
      refine q_block_normal (q_then ?_)
      refine c_region ?_
      refine o_pure (p_addb (p := (k : Int)) (q := 1) rfl rfl (by omega)) rfl rfl rfl ?_
      refine o_mv rfl rfl ?_
      refine o_nil ?_
      refine q_round hK11 ((misses + 1), (out ++ [(-1)]), a24, c25, S26, k + 1, (AL.set m (l[k]) ((Opt.nexts l)[k]))) ?_ ?_ ?_ ?_
      ·clear hK11
       first | exact hI.hit hrm.1 (by omega) (by assumption) hnx | exact hI.evict hrm.1 (by omega) (by assumption) (by assumption) hnx | exact hI.add hrm.1 (by omega) (by assumption) (by assumption) hnx
      ·(try dsimp only); omega
      ·exact Sub.cons rfl (Sub.cons rfl (Sub.cons rfl (Sub.cons rfl (Sub.cons rfl (Sub.cons rfl (Sub.cons rfl (Sub.cons rfl (Sub.nil _))))))))
      ·exact fun _ hw => HeapIs.pick hw [1, 2, 3, 4] (by decide) rfl
    ·simp only [Bool.not_eq_false'] at hc13
     refine c_skip (q_then (c_seq (c_region ?_)))
     refine o_mv rfl rfl ?_
     refine o_mv rfl rfl ?_
     refine o_mv rfl rfl ?_
     refine o_mv rfl rfl ?_
     refine o_pure (p_indexAddr (L := (Opt.nexts l)) (T := tInt) (i := (k : Int)) rfl rfl (rd_own (i := 2) rfl) Try.underlying22 sz3 (by omega) (by omega)) rfl rfl rfl ?_
     refine o_pure (p_loadE1 (i := k) (T := tInt) (L := (Opt.nexts l)) (v := .int .i64 ((Opt.nexts l)[k])) rfl (rd_own (i := 2) rfl) (by first | assumption | omega) sh3 rfl) rfl rfl rfl ?_
     refine o_mapUpdate (i := 1) (K := kInt) (ve := (fun z : Int => .int .i64 z)) (m := m) (k := l[k]) (v := (Opt.nexts l)[k]) rfl rfl rfl rfl Try.underlying135 Try.underlying3 ?_
     refine o_nil (q_then (c_region ?_))
     refine o_mv rfl rfl ?_
     refine o_mv rfl rfl ?_
     refine o_buildSlice (m := 1) (T := tInt) (L := [(-1)]) (vs := [.int .i64 (-1)]) rfl rfl rfl rfl Try.underlying22 sz3 (by decide) ze3 rfl (by decide) rfl (fun S27 a28 => ?_)
     refine o_append (i := 1) (L := out) (M := [(-1)]) (T := tInt) rfl rfl rfl (rd_own (i := 0) rfl) Try.underlying22 Try.underlying22 (by intro k h; cases h) el3 (by intro z; simp [tInt, one1]) (by decide) (by first | omega | (simp only [List.length_cons, List.length_nil]; omega) | (simp only [List.length_append, List.length_cons, List.length_nil, List.length_take, List.length_drop]; omega)) rfl (fun a30 c31 S32 => ?_)
     refine o_as rfl rfl ?_
     refine o_nil ?_
     refine q_block_normal (q_then ?_)
     refine c_region ?_
     refine o_pure (p_addb (p := (k : Int)) (q := 1) rfl rfl (by omega)) rfl rfl rfl ?_
     refine o_mv rfl rfl ?_
     refine o_nil ?_
     refine q_round hK11 (misses, (out ++ [(-1)]), a30, c31, S32, k + 1, (AL.set m (l[k]) ((Opt.nexts l)[k]))) ?_ ?_ ?_ ?_
     ·clear hK11
      first | exact hI.hit hrm.1 (by omega) (by assumption) hnx | exact hI.evict hrm.1 (by omega) (by assumption) (by assumption) hnx | exact hI.add hrm.1 (by omega) (by assumption) (by assumption) hnx
     ·(try dsimp only); omega
     ·exact Sub.cons rfl (Sub.cons rfl (Sub.cons rfl (Sub.cons rfl (Sub.cons rfl (Sub.cons rfl (Sub.cons rfl (Sub.cons rfl (Sub.nil _))))))))
     ·exact fun _ hw => HeapIs.pick hw [1, 2, 3, 4] (by decide) rfl
   ·simp only [decide_eq_false_iff_not, Int.not_lt] at hc12
    have hdn := hI.done (by omega)
    refine c_exit ?_
    refine q_then_exit (q_then_exit (q_block_exit (q_then ?_)))
    refine c_seq (c_region ?_)
    refine o_mv rfl rfl ?_
    refine o_mv rfl rfl ?_
    refine o_as rfl rfl ?_
    refine o_as rfl rfl ?_
    refine o_as rfl rfl ?_
    refine o_nil (q_then (c_ret ?_))
    obtain ⟨hv1, hv2⟩ : _ ∧ _ := by first | exact Opt.ev2 (room := room) hbad.1 hbad.2 | exact Opt.ev3 (room := room) htr hrk | exact Opt.ev1 (room := room) (by assumption)
    have hr0 : (out : List Int) = ((Opt.ev l room).1) := by
     first | (rw [hv1]; done) | exact hv2.symm | (rw [hv1, ← hdn]; done)
    have hr1 : (misses : Int) = ((Opt.ev l room).2) := by
     first | (rw [hv1]; done) | exact hv2.symm | (rw [hv1, ← hdn]; done)
    have hr2 : (0 : Int) = (Opt.evErr l room) := by
     first | (rw [hv1]; done) | exact hv2.symm | (rw [hv1, ← hdn]; done)
    refine q_endM (p := (aout, cout)) Sout (rt3 rfl (r_tmp rfl) (r_tmp rfl) (r_tmp rfl)) (i := 3) rfl ?_ ?_ ?_
    ·exact (by have hcc := congr (congr (congrArg (fun (y0 : List Int) (y1 : Int) (y2 : Int) => (.tuple #[.slice aout y0.length cout, .int .i64 y1, .int .i64 y2] : Value)) hr0) hr1) hr2; exact hcc)
    ·exact fun w hw => hw.above (i := 3) (j := 0) (by decide) rfl rfl
    ·intro w hw; exact Eq.mp (congrArg (fun y => SlO tInt _ w aout cout y) hr0) ((hw.at (i := 0) rfl).here)
end Go.Proofs.Ytfncgfcehkalnaa
