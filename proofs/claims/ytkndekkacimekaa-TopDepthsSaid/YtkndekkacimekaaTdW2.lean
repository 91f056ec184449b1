/- The walks, printed by a program from the translation and a specification. -/
import Derived.Test.YtkndekkacimekaaTdF
import Derived.Test.YtkndekkacimekaaTdLaw
namespace Go.Proofs.Ytkndekkacimekaa
open Go.Sx Go.RowKit
set_option maxHeartbeats 8000000 in
set_option maxRecDepth 100000 in
theorem grow_int_ok (l : List Int) (al : Option Addr) (cl : Nat) (Sl : Nat → Prop) (n : Int) (hy1 : l.length = 0 ∧ cl = 0 ∧ 0 ≤ n ∧ n ≤ 1000000) : FnX Try.prog 96 [.slice al l.length cl, .int .i64 n] [own tInt Sl al cl l] (fun _ => True) (Option Addr × Nat × (Nat → Prop)) (fun p => .slice p.1 l.length p.2.1) (fun p => [own tInt p.2.2 p.1 p.2.1 l]) := by
  refine fnX (nt := 27) (F0 := [(0, .slice al l.length cl), (1, .int .i64 n)]) Try.func96 rfl Try.ntmps96 rfl rfl (fun w0 hpre => ?_)
  refine c_know (fun w hw => own_len (i := 1) (T := tInt) hw rfl) (fun hlown_l => ?_)
  obtain ⟨hcown_l, hlown_l⟩ := hlown_l
  refine c_seq ?_
  refine c_region ?_
  refine o_pure (p_assign (v := .slice none 0 0) rfl) rfl rfl rfl ?_
  refine o_nil ?_
  refine q_then ?_
  refine c_seq ?_
  refine c_seq ?_
  refine c_region ?_
  refine o_pure (p_move (v := .int .i64 n) rfl) rfl rfl rfl ?_
  refine o_pure (p_lt (p := n) (q := 0) rfl rfl) rfl rfl rfl ?_
  refine o_nil ?_
  refine q_then ?_
  refine c_cond (b := decide (n < 0)) rfl (fun hc1 => ?_) (fun hc1 => ?_)
  · simp only [decide_eq_true_eq] at hc1
    exfalso; omega
  · simp only [decide_eq_false_iff_not, Int.not_lt] at hc1
    refine c_skip ?_
    refine q_then ?_
    refine c_seq ?_
    refine c_seq ?_
    refine c_region ?_
    refine o_pure (p_move (v := .int .i64 n) rfl) rfl rfl rfl ?_
    refine o_pure (p_move (v := .slice al l.length cl) rfl) rfl rfl rfl ?_
    refine o_pure (p_cap_slice rfl rfl Try.underlying30) rfl rfl rfl ?_
    refine o_pure (p_move (v := .slice al l.length cl) rfl) rfl rfl rfl ?_
    refine o_pure (p_len_slice (len := l.length) rfl rfl Try.underlying30) rfl rfl rfl ?_
    refine o_pure (p_subb (p := (cl : Int)) (q := (l.length : Int)) rfl rfl (by omega)) rfl rfl rfl ?_
    refine o_pure (p_subb (p := n) (q := ((cl : Int) - (l.length : Int))) rfl rfl (by omega)) rfl rfl rfl ?_
    refine o_pure (p_assign (v := .int .i64 (n - ((cl : Int) - (l.length : Int)))) rfl) rfl rfl rfl ?_
    refine o_nil ?_
    refine q_then ?_
    refine c_seq ?_
    refine c_region ?_
    refine o_pure (p_move (v := .int .i64 (n - ((cl : Int) - (l.length : Int)))) rfl) rfl rfl rfl ?_
    refine o_pure (p_gt (p := (n - ((cl : Int) - (l.length : Int)))) (q := 0) rfl rfl) rfl rfl rfl ?_
    refine o_nil ?_
    refine q_then ?_
    refine c_cond (b := decide (0 < (n - ((cl : Int) - (l.length : Int))))) rfl (fun hc2 => ?_) (fun hc2 => ?_)
    · simp only [decide_eq_true_eq] at hc2
      refine c_region ?_
      refine o_pure (p_move (v := .slice al l.length cl) rfl) rfl rfl rfl ?_
      refine o_pure (p_move (v := .slice al l.length cl) rfl) rfl rfl rfl ?_
      refine o_pure (p_cap_slice rfl rfl Try.underlying30) rfl rfl rfl ?_
      refine o_pure (p_sliceH (L := l) (T := tInt) (h := (cl : Int)) rfl rfl Try.underlying30 sz3 (by omega) (by omega) (rd_own (i := 1) rfl)) rfl rfl rfl ?_
      refine o_pure (p_move (v := .int .i64 (n - ((cl : Int) - (l.length : Int)))) rfl) rfl rfl rfl ?_
      refine o_appendZ (i := 1) (m := cl) (k := n.toNat) (L := l) (T := tInt) (z := 0) rfl rfl rfl (by omega) Try.underlying30 Try.underlying3 el3 ze3 rfl (by decide) (by omega) rfl (fun a3 c4 S5 => ?_)
      refine o_know (fun w hw => own_len (i := 0) (T := tInt) hw rfl) (fun hlz7 => ?_)
      refine o_pure (p_move (v := .slice al l.length cl) rfl) rfl rfl rfl ?_
      refine o_pure (p_len_slice (len := l.length) rfl rfl Try.underlying30) rfl rfl rfl ?_
      refine o_pure (p_sliceH (L := ((l.take cl) ++ (List.replicate n.toNat 0))) (T := tInt) (h := (l.length : Int)) rfl rfl Try.underlying30 sz3 (by omega) (by omega) (rd_own (i := 0) rfl)) rfl rfl rfl ?_
      refine o_pure (p_assign (v := .slice a3 (((l.take cl) ++ (List.replicate n.toNat 0)).take ((l.length : Int).toNat)).length c4) rfl) rfl rfl rfl ?_
      refine o_nil ?_
      refine q_then ?_
      refine c_seq ?_
      refine c_region ?_
      refine o_pure (p_move (v := .slice a3 (((l.take cl) ++ (List.replicate n.toNat 0)).take ((l.length : Int).toNat)).length c4) rfl) rfl rfl rfl ?_
      refine o_pure (p_assign (v := .slice a3 (((l.take cl) ++ (List.replicate n.toNat 0)).take ((l.length : Int).toNat)).length c4) rfl) rfl rfl rfl ?_
      refine o_nil ?_
      refine q_then ?_
      refine c_ret ?_
      refine q_shrinkC (i := 0) (hi := (l.length : Int).toNat) (T := tInt) rfl (by omega) ?_
      have hr0 : ((((l.take cl) ++ (List.replicate n.toNat 0)).take ((l.length : Int).toNat)) : List Int) = l := by
        first | rfl | (rw [List.eq_nil_of_length_eq_zero hy1.1]; simp)
      refine q_endX (p := (a3, c4, S5)) (rt1 rfl (r_tmp rfl)) ?_ (fun w hw => ?_)
      · exact (by have hcc := congrArg (fun (y0 : List Int) => (.slice a3 y0.length c4 : Value)) hr0; exact hcc)
      · have h2 := hw.pick (H' := [outer w0 [own tInt Sl al cl l], own tInt S5 a3 c4 (((l.take cl) ++ (List.replicate n.toNat 0)).take ((l.length : Int).toNat))]) [1, 0] (by decide) rfl
        exact Eq.mp (congrArg (fun z => HeapIs w0 ((outer w0 [own tInt Sl al cl l]) :: z) w) ((by have hcc := congrArg (fun (y0 : List Int) => ([own tInt S5 a3 c4 y0] : List Ent)) hr0; exact hcc))) h2
    · simp only [decide_eq_false_iff_not, Int.not_lt] at hc2
      refine c_skip ?_
      refine q_then ?_
      refine c_seq ?_
      refine c_region ?_
      refine o_pure (p_move (v := .slice al l.length cl) rfl) rfl rfl rfl ?_
      refine o_pure (p_assign (v := .slice al l.length cl) rfl) rfl rfl rfl ?_
      refine o_nil ?_
      refine q_then ?_
      refine c_ret ?_
      refine q_endX (p := (al, cl, Sl)) (rt1 rfl (r_tmp rfl)) ?_ (fun w hw => ?_)
      · exact rfl
      · have h2 := hw.pick (H' := [outer w0 [own tInt Sl al cl l], own tInt Sl al cl l]) [0, 1] (by decide) rfl
        exact Eq.mp (congrArg (fun z => HeapIs w0 ((outer w0 [own tInt Sl al cl l]) :: z) w) (rfl)) h2

set_option maxHeartbeats 8000000 in
set_option maxRecDepth 100000 in
theorem concat_int_ok (l : List Hdr) (al : Option Addr) (cl : Nat) (hy1 : (catH l).length ≤ 1000000) : FnM Try.prog 67 [.slice al l.length cl] (fun w => Rd tHdr w al cl l ∧ (∀ h ∈ l, Rd tInt w h.a h.cap h.L)) (Option Addr × Nat) (fun p => .slice p.1 (catH l).length p.2) (fun p S w => SlO tInt S w p.1 p.2 (catH l)) := by
  refine fnM (nt := 36) (F0 := [(0, .slice al l.length cl)]) Try.func67 rfl Try.ntmps67 rfl rfl (fun w0 hpre => ?_)
  obtain ⟨hl, hrl⟩ := hpre
  have hlhl := hl.2.1
  refine c_seq ?_
  refine c_region ?_
  refine o_pure (p_assign (v := .slice none 0 0) rfl) rfl rfl rfl ?_
  refine o_nil ?_
  refine q_then ?_
  refine c_seq ?_
  refine c_region ?_
  refine o_pure (p_assign (v := .int .i64 0) rfl) rfl rfl rfl ?_
  refine o_nil ?_
  refine q_then ?_
  refine c_seq ?_
  refine c_seq ?_
  refine c_region ?_
  refine o_pure (p_move (v := .slice al l.length cl) rfl) rfl rfl rfl ?_
  refine o_pure (p_len_slice (len := l.length) rfl rfl Try.underlying133) rfl rfl rfl ?_
  refine o_pure (p_move (v := .int .i64 0) rfl) rfl rfl rfl ?_
  refine o_nil ?_
  refine q_then ?_
  refine c_block ?_
  refine c_loop (St := Int × Nat)
    (fun ⟨size, k⟩ => [(0, .slice al l.length cl), (3, .int .i64 size), (9, .slice al l.length cl), (10, .int .i64 (l.length : Int)), (11, .int .i64 (k : Int))])
    (fun ⟨size, k⟩ => [base w0])
    (fun ⟨size, k⟩ => k ≤ l.length ∧ size = ((catH (l.take k)).length : Int))
    (fun ⟨size, k⟩ => l.length - k)
    (0, 0) ?_ (Sub.cons rfl (Sub.cons rfl (Sub.cons rfl (Sub.cons rfl (Sub.cons rfl (Sub.nil _)))))) (fun _ hw => hw) ?_
  · exact ⟨Nat.zero_le _, by simp [catH]⟩
  rintro ⟨size, k⟩ hI K hK1
  show SC _ _ Try.prog 36 w0 _ _ [(0, .slice al l.length cl), (3, .int .i64 size), (9, .slice al l.length cl), (10, .int .i64 (l.length : Int)), (11, .int .i64 (k : Int))] [base w0]
  refine c_seq ?_
  refine c_region ?_
  refine o_pure (p_lt (p := (k : Int)) (q := (l.length : Int)) rfl rfl) rfl rfl rfl ?_
  refine o_nil ?_
  refine q_then ?_
  refine c_seq ?_
  refine c_cond (b := decide ((k : Int) < (l.length : Int))) rfl (fun hc2 => ?_) (fun hc2 => ?_)
  · simp only [decide_eq_true_eq] at hc2
    have hst := congrArg List.length (catH_step (l := l) (k := k) (by omega))
    rw [List.length_append] at hst
    have hle1 := catH_le l (k + 1)
    refine c_skip ?_
    refine q_then ?_
    refine c_seq ?_
    refine c_block ?_
    refine c_seq ?_
    refine c_region ?_
    refine o_pure (p_indexAddr (L := l) (T := tHdr) (i := (k : Int)) rfl rfl (rd_base (i := 0) rfl hl) Try.underlying133 sz30 (by omega) (by omega)) rfl rfl rfl ?_
    refine o_pure (p_loadE1 (i := k) (T := tHdr) (L := l) (v := .slice ((l[k]).a) ((l[k]).L).length ((l[k]).cap)) rfl (rd_base (i := 0) rfl hl) (by first | assumption | omega) sh30 rfl) rfl rfl rfl ?_
    refine o_pure (p_assign (v := .slice ((l[k]).a) ((l[k]).L).length ((l[k]).cap)) rfl) rfl rfl rfl ?_
    refine o_nil ?_
    refine q_then ?_
    refine c_seq ?_
    refine c_region ?_
    refine o_pure (p_move (v := .int .i64 size) rfl) rfl rfl rfl ?_
    refine o_pure (p_move (v := .slice ((l[k]).a) ((l[k]).L).length ((l[k]).cap)) rfl) rfl rfl rfl ?_
    refine o_pure (p_len_slice (len := ((l[k]).L).length) rfl rfl Try.underlying30) rfl rfl rfl ?_
    refine o_pure (p_addb (p := size) (q := (((l[k]).L).length : Int)) rfl rfl (by omega)) rfl rfl rfl ?_
    refine o_pure (p_assign (v := .int .i64 (size + (((l[k]).L).length : Int))) rfl) rfl rfl rfl ?_
    refine o_nil ?_
    refine q_then ?_
    refine c_seq ?_
    refine c_region ?_
    refine o_pure (p_move (v := .int .i64 (size + (((l[k]).L).length : Int))) rfl) rfl rfl rfl ?_
    refine o_pure (p_lt (p := (size + (((l[k]).L).length : Int))) (q := 0) rfl rfl) rfl rfl rfl ?_
    refine o_nil ?_
    refine q_then ?_
    refine c_cond (b := decide ((size + (((l[k]).L).length : Int)) < 0)) rfl (fun hc3 => ?_) (fun hc3 => ?_)
    · simp only [decide_eq_true_eq] at hc3
      exfalso; omega
    · simp only [decide_eq_false_iff_not, Int.not_lt] at hc3
      refine c_skip ?_
      refine q_block_normal (q_then ?_)
      refine c_region ?_
      refine o_pure (p_addb (p := (k : Int)) (q := 1) rfl rfl (by omega)) rfl rfl rfl ?_
      refine o_pure (p_move (v := .int .i64 ((k : Int) + 1)) rfl) rfl rfl rfl ?_
      refine o_nil ?_
      refine q_round hK1 ((size + (((l[k]).L).length : Int)), k + 1) ?_ ?_ ?_ ?_
      · clear hK1
        exact ⟨by omega, by omega⟩
      · (try dsimp only); omega
      · exact Sub.cons rfl (Sub.cons rfl (Sub.cons rfl (Sub.cons rfl (Sub.cons rfl (Sub.nil _)))))
      · exact fun _ hw => HeapIs.pick hw [0] (by decide) rfl
  · simp only [decide_eq_false_iff_not, Int.not_lt] at hc2
    have hle0 := catH_le l k
    refine c_exit ?_
    refine q_then_exit (q_then_exit (q_block_exit (q_then ?_)))
    refine c_seq ?_
    refine c_region ?_
    refine o_pure (p_move (v := .int .i64 size) rfl) rfl rfl rfl ?_
    refine o_ownNil tInt ?_
    refine o_callX (pre := [own tInt (fun _ => False) none 0 ([])]) (R := [base w0]) rfl (grow_int_ok ([]) none 0 (fun _ => False) size (by first | exact ⟨rfl, rfl, by omega, by omega⟩)) hf96 rfl (fun _ _ => trivial) rfl ?_
    rintro ⟨a5, c6, S7⟩
    refine o_asH (H' := [own tInt S7 a5 c6 ([]), base w0]) rfl ?_
    refine o_pure (p_assign (v := .slice a5 ([]).length c6) rfl) rfl rfl rfl ?_
    refine o_nil ?_
    refine q_then ?_
    refine c_seq ?_
    refine c_seq ?_
    refine c_region ?_
    refine o_pure (p_move (v := .slice al l.length cl) rfl) rfl rfl rfl ?_
    refine o_pure (p_len_slice (len := l.length) rfl rfl Try.underlying133) rfl rfl rfl ?_
    refine o_pure (p_move (v := .int .i64 0) rfl) rfl rfl rfl ?_
    refine o_nil ?_
    refine q_then ?_
    refine c_block ?_
    refine c_loop (St := List Int × Option Addr × Nat × (Nat → Prop) × Nat)
      (fun ⟨ns, ans, cns, Sns, k2⟩ => [(6, .slice ans ns.length cns), (25, .slice al l.length cl), (26, .int .i64 (l.length : Int)), (27, .int .i64 (k2 : Int))])
      (fun ⟨ns, ans, cns, Sns, k2⟩ => [own tInt Sns ans cns ns, base w0])
      (fun ⟨ns, ans, cns, Sns, k2⟩ => k2 ≤ l.length ∧ ns = catH (l.take k2))
      (fun ⟨ns, ans, cns, Sns, k2⟩ => l.length - k2)
      (([]), a5, c6, S7, 0) ?_ (Sub.cons rfl (Sub.cons rfl (Sub.cons rfl (Sub.cons rfl (Sub.nil _))))) (fun _ hw => hw) ?_
    · exact ⟨Nat.zero_le _, by simp [catH]⟩
    rintro ⟨ns, ans, cns, Sns, k2⟩ hI K hK9
    have hnl : ns.length = (catH (l.take k2)).length := by rw [hI.2]
    show SC _ _ Try.prog 36 w0 _ _ [(6, .slice ans ns.length cns), (25, .slice al l.length cl), (26, .int .i64 (l.length : Int)), (27, .int .i64 (k2 : Int))] [own tInt Sns ans cns ns, base w0]
    refine c_seq ?_
    refine c_region ?_
    refine o_pure (p_lt (p := (k2 : Int)) (q := (l.length : Int)) rfl rfl) rfl rfl rfl ?_
    refine o_nil ?_
    refine q_then ?_
    refine c_seq ?_
    refine c_cond (b := decide ((k2 : Int) < (l.length : Int))) rfl (fun hc10 => ?_) (fun hc10 => ?_)
    · simp only [decide_eq_true_eq] at hc10
      have hst := congrArg List.length (catH_step (l := l) (k := k2) (by omega))
      rw [List.length_append] at hst
      have hle1 := catH_le l (k2 + 1)
      refine c_skip ?_
      refine q_then ?_
      refine c_seq ?_
      refine c_block ?_
      refine c_seq ?_
      refine c_region ?_
      refine o_pure (p_indexAddr (L := l) (T := tHdr) (i := (k2 : Int)) rfl rfl (rd_base (i := 1) rfl hl) Try.underlying133 sz30 (by omega) (by omega)) rfl rfl rfl ?_
      refine o_pure (p_loadE1 (i := k2) (T := tHdr) (L := l) (v := .slice ((l[k2]).a) ((l[k2]).L).length ((l[k2]).cap)) rfl (rd_base (i := 1) rfl hl) (by first | assumption | omega) sh30 rfl) rfl rfl rfl ?_
      refine o_pure (p_assign (v := .slice ((l[k2]).a) ((l[k2]).L).length ((l[k2]).cap)) rfl) rfl rfl rfl ?_
      refine o_nil ?_
      refine q_then ?_
      refine c_region ?_
      refine o_pure (p_move (v := .slice ans ns.length cns) rfl) rfl rfl rfl ?_
      refine o_pure (p_move (v := .slice ((l[k2]).a) ((l[k2]).L).length ((l[k2]).cap)) rfl) rfl rfl rfl ?_
      refine o_append (i := 0) (L := ns) (M := (l[k2]).L) (T := tInt) rfl rfl rfl (rd_base (i := 1) rfl (hrl _ (List.getElem_mem (by first | assumption | omega)))) Try.underlying30 Try.underlying30 (by intro k h; cases h) el3 (by intro z; simp [tInt, one1]) (by decide) (by first | omega | (simp only [List.length_cons, List.length_nil]; omega) | (simp only [List.length_append, List.length_cons, List.length_nil, List.length_take, List.length_drop]; omega)) rfl (fun a11 c12 S13 => ?_)
      refine o_pure (p_assign (v := .slice a11 (ns ++ (l[k2]).L).length c12) rfl) rfl rfl rfl ?_
      refine o_nil ?_
      refine q_block_normal (q_then ?_)
      refine c_region ?_
      refine o_pure (p_addb (p := (k2 : Int)) (q := 1) rfl rfl (by omega)) rfl rfl rfl ?_
      refine o_pure (p_move (v := .int .i64 ((k2 : Int) + 1)) rfl) rfl rfl rfl ?_
      refine o_nil ?_
      refine q_round hK9 ((ns ++ (l[k2]).L), a11, c12, S13, k2 + 1) ?_ ?_ ?_ ?_
      · clear hK9
        exact ⟨by omega, (congrArg (fun z => z ++ _) hI.2).trans (catH_step (by omega)).symm⟩
      · (try dsimp only); omega
      · exact Sub.cons rfl (Sub.cons rfl (Sub.cons rfl (Sub.cons rfl (Sub.nil _))))
      · exact fun _ hw => HeapIs.pick hw [0, 1] (by decide) rfl
    · simp only [decide_eq_false_iff_not, Int.not_lt] at hc10
      refine c_exit ?_
      refine q_then_exit (q_then_exit (q_block_exit (q_then ?_)))
      refine c_seq ?_
      refine c_region ?_
      refine o_pure (p_move (v := .slice ans ns.length cns) rfl) rfl rfl rfl ?_
      refine o_pure (p_assign (v := .slice ans ns.length cns) rfl) rfl rfl rfl ?_
      refine o_nil ?_
      refine q_then ?_
      refine c_ret ?_
      have hr0 : (ns : List Int) = (catH l) := by
        exact hI.2.trans (catH_all (by omega))
      refine q_endM (p := (ans, cns)) Sns (rt1 rfl (r_tmp rfl)) (i := 1) rfl ?_ ?_ ?_
      · exact (by have hcc := congrArg (fun (y0 : List Int) => (.slice ans y0.length cns : Value)) hr0; exact hcc)
      · exact fun w hw => hw.above (i := 1) (j := 0) (by decide) rfl rfl
      · intro w hw; exact Eq.mp (congrArg (fun y => SlO tInt _ w ans cns y) hr0) ((hw.at (i := 0) rfl).here)
theorem concat2_ok (x : List Int) (ax : Option Addr) (cx : Nat) (y : List Int) (ay : Option Addr) (cy : Nat) (al : Option Addr) (cl : Nat) (hy1 : x.length + y.length ≤ 1000000) :
    FnM Try.prog 67 [.slice al [(⟨ax, cx, x⟩ : Hdr), (⟨ay, cy, y⟩ : Hdr)].length cl] (fun w => Rd tHdr w al cl [(⟨ax, cx, x⟩ : Hdr), (⟨ay, cy, y⟩ : Hdr)] ∧ Rd tInt w ax cx x ∧ Rd tInt w ay cy y) (Option Addr × Nat) (fun p => .slice p.1 (x ++ y).length p.2) (fun p S w => SlO tInt S w p.1 p.2 (x ++ y)) := fun w hw => by
  have h := concat_int_ok [(⟨ax, cx, x⟩ : Hdr), (⟨ay, cy, y⟩ : Hdr)] al cl (by simp [catH]; omega) w ⟨hw.1, by intro h hm; simp only [List.mem_cons, List.not_mem_nil, or_false] at hm; rcases hm with rfl | rfl; exact hw.2.1; exact hw.2.2⟩
  rw [show catH [(⟨ax, cx, x⟩ : Hdr), (⟨ay, cy, y⟩ : Hdr)] = x ++ y by simp [catH]] at h
  exact h
end Go.Proofs.Ytkndekkacimekaa
