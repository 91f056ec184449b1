/- The walks, printed by a program from the translation and a specification. -/
import Derived.Test.YthbfdhphnofacabGrF
import Derived.Test.YthbfdhphnofacabGrLaw3
import Derived.Test.YthbfdhphnofacabGrW1
namespace Go.Proofs.Ythbfdhphnofacab
open Go.Sx Go.RowKit
set_option maxHeartbeats 8000000 in
set_option maxRecDepth 100000 in
theorem hoardThing_ok (t : DItem) : Fn0 Try.prog 28 [.agg #[.int .i64 t.key, .int .i64 t.size, .int .i64 t.cost, .int .i64 t.worth]] (fun _ => True) (.bool (Greedy.right t)) := by
  refine fn0 (nt := 16) (F0 := [(0, .agg #[.int .i64 t.key, .int .i64 t.size, .int .i64 t.cost, .int .i64 t.worth])]) Try.func28 rfl Try.ntmps28 rfl rfl (fun w0 hpre => ?_)
  refine c_seq ?_
  refine c_region ?_
  refine o_box (v := .agg #[.int .i64 t.key, .int .i64 t.size, .int .i64 t.cost, .int .i64 t.worth]) rfl rfl (fun B1 => ?_)
  refine o_pure (p_assign (v := .bool false) rfl) rfl rfl rfl ?_
  refine o_nil ?_
  refine q_then ?_
  refine c_seq ?_
  refine c_region ?_
  refine o_pure (p_fieldAddr (B := B1) (j := 0) (j' := 0) rfl fo41_0 rfl) rfl rfl rfl ?_
  refine o_pure (p_load (i := 0) (v := .int .i64 t.key) rfl rfl sh3 rfl) rfl rfl rfl ?_
  refine o_call0 (v := .bool (Ref.between t.key (0 : Int) (1048576 : Int))) rfl (between_ok t.key (0 : Int) (1048576 : Int)) hf66 (fun _ _ => trivial) rfl ?_
  refine o_pure (p_move (v := .bool (Ref.between t.key (0 : Int) (1048576 : Int))) rfl) rfl rfl rfl ?_
  refine o_and (p := 10) 4 (Ref.between t.size (1 : Int) (1048576 : Int)) ?_ ?_ ?_
  · intro hb2 hk
    skip
    refine o_unguard 6 rfl rfl ?_
    refine o_pure (p_fieldAddr (B := B1) (j := 0) (j' := 1) rfl fo41_1 rfl) rfl rfl rfl ?_
    refine o_unguard 6 rfl rfl ?_
    refine o_pure (p_load (i := 0) (v := .int .i64 t.size) rfl rfl sh3 rfl) rfl rfl rfl ?_
    refine o_unguard 6 rfl rfl ?_
    refine o_call0 (v := .bool (Ref.between t.size (1 : Int) (1048576 : Int))) rfl (between_ok t.size (1 : Int) (1048576 : Int)) hf66 (fun _ _ => trivial) rfl ?_
    refine o_pure (p_pick_true (u := .bool (Ref.between t.size (1 : Int) (1048576 : Int))) rfl rfl) rfl rfl rfl ?_
    exact o_sub (Sub.cons rfl (Sub.skip rfl (Sub.skip rfl (Sub.skip rfl (Sub.skip rfl (Sub.skip rfl (Sub.refl _))))))) hk
  · intro hb2 hk
    refine o_guard_no rfl 6 rfl rfl rfl rfl rfl ?_
    refine o_guard_no rfl 6 rfl rfl rfl rfl rfl ?_
    refine o_guard_no rfl 6 rfl rfl rfl rfl rfl ?_
    refine o_pure (p_pick_false (v := .bool false) rfl rfl) rfl rfl rfl ?_
    exact o_sub (Sub.cons rfl (Sub.skip rfl (Sub.skip rfl (Sub.skip rfl (Sub.skip rfl (Sub.skip rfl (Sub.refl _))))))) hk
  refine o_pure (p_move (v := .bool ((Ref.between t.key (0 : Int) (1048576 : Int)) && (Ref.between t.size (1 : Int) (1048576 : Int)))) rfl) rfl rfl rfl ?_
  refine o_and (p := 15) 4 (Ref.between t.cost (0 : Int) (1048576 : Int)) ?_ ?_ ?_
  · intro hb3 hk
    simp only [Bool.and_eq_true] at hb3
    refine o_unguard 11 rfl rfl ?_
    refine o_pure (p_fieldAddr (B := B1) (j := 0) (j' := 2) rfl fo41_2 rfl) rfl rfl rfl ?_
    refine o_unguard 11 rfl rfl ?_
    refine o_pure (p_load (i := 0) (v := .int .i64 t.cost) rfl rfl sh3 rfl) rfl rfl rfl ?_
    refine o_unguard 11 rfl rfl ?_
    refine o_call0 (v := .bool (Ref.between t.cost (0 : Int) (1048576 : Int))) rfl (between_ok t.cost (0 : Int) (1048576 : Int)) hf66 (fun _ _ => trivial) rfl ?_
    refine o_pure (p_pick_true (u := .bool (Ref.between t.cost (0 : Int) (1048576 : Int))) rfl rfl) rfl rfl rfl ?_
    exact o_sub (Sub.cons rfl (Sub.skip rfl (Sub.skip rfl (Sub.skip rfl (Sub.skip rfl (Sub.skip rfl (Sub.refl _))))))) hk
  · intro hb3 hk
    refine o_guard_no rfl 11 rfl rfl rfl rfl rfl ?_
    refine o_guard_no rfl 11 rfl rfl rfl rfl rfl ?_
    refine o_guard_no rfl 11 rfl rfl rfl rfl rfl ?_
    refine o_pure (p_pick_false (v := .bool false) rfl rfl) rfl rfl rfl ?_
    exact o_sub (Sub.cons rfl (Sub.skip rfl (Sub.skip rfl (Sub.skip rfl (Sub.skip rfl (Sub.skip rfl (Sub.refl _))))))) hk
  refine o_pure (p_assign (v := .bool (((Ref.between t.key (0 : Int) (1048576 : Int)) && (Ref.between t.size (1 : Int) (1048576 : Int))) && (Ref.between t.cost (0 : Int) (1048576 : Int)))) rfl) rfl rfl rfl ?_
  refine o_nil ?_
  refine q_then ?_
  refine c_ret ?_
  have hr0 : ((((Ref.between t.key (0 : Int) (1048576 : Int)) && (Ref.between t.size (1 : Int) (1048576 : Int))) && (Ref.between t.cost (0 : Int) (1048576 : Int))) : Bool) = (Greedy.right t) := by
    simp [Greedy.right, Ref.between, Bool.and_assoc]
  refine q_end0 (v := .bool (((Ref.between t.key (0 : Int) (1048576 : Int)) && (Ref.between t.size (1 : Int) (1048576 : Int))) && (Ref.between t.cost (0 : Int) (1048576 : Int)))) (rt1 rfl (r_tmp rfl)) (i := 1) rfl ?_
  exact (by have hcc := congrArg (fun (y0 : Bool) => (.bool y0 : Value)) hr0; exact hcc)

set_option maxHeartbeats 8000000 in
set_option maxRecDepth 100000 in
theorem hoardSizes_ok (l : List DItem) (al : Option Addr) (cl : Nat) (hy1 : Greedy.Fine l) : Fn0 Try.prog 30 [.slice al l.length cl] (fun w => Rd tItem w al cl l) (.int .i64 (Greedy.sizes l)) := by
  refine fn0 (nt := 19) (F0 := [(0, .slice al l.length cl)]) Try.func30 rfl Try.ntmps30 rfl rfl (fun w0 hpre => ?_)
  have hl := hpre
  have hlhl := hl.2.1
  refine c_seq ?_
  refine c_region ?_
  refine o_pure (p_assign (v := .int .i64 0) rfl) rfl rfl rfl ?_
  refine o_nil ?_
  refine q_then ?_
  refine c_seq ?_
  refine c_region ?_
  refine o_pure (p_assign (v := .int .i64 0) rfl) rfl rfl rfl ?_
  refine o_nil ?_
  refine q_then ?_
  refine c_seq ?_
  refine c_seq ?_
  refine c_region ?_
  refine o_pure (p_assign (v := .int .i64 0) rfl) rfl rfl rfl ?_
  refine o_nil ?_
  refine q_then ?_
  refine c_block ?_
  refine c_loop (St := Int × Nat)
    (fun ⟨n, i⟩ => [(0, .slice al l.length cl), (3, .int .i64 n), (4, .int .i64 (i : Int))])
    (fun ⟨n, i⟩ => [base w0])
    (fun ⟨n, i⟩ => Greedy.SInv l n (Greedy.costs (l.take i)) i)
    (fun ⟨n, i⟩ => l.length - i)
    (0, 0) ?_ (Sub.cons rfl (Sub.cons rfl (Sub.cons rfl (Sub.nil _)))) (fun _ hw => hw) ?_
  · exact Greedy.SInv.start l
  rintro ⟨n, i⟩ hI K hK1
  have hbd := hI.bd hy1
  show SC _ _ Try.prog 19 w0 _ _ [(0, .slice al l.length cl), (3, .int .i64 n), (4, .int .i64 (i : Int))] [base w0]
  refine c_seq ?_
  refine c_seq ?_
  refine c_region ?_
  refine o_pure (p_move (v := .int .i64 (i : Int)) rfl) rfl rfl rfl ?_
  refine o_pure (p_move (v := .slice al l.length cl) rfl) rfl rfl rfl ?_
  refine o_pure (p_len_slice (len := l.length) rfl rfl Try.underlying37) rfl rfl rfl ?_
  refine o_pure (p_lt (p := (i : Int)) (q := (l.length : Int)) rfl rfl) rfl rfl rfl ?_
  refine o_nil ?_
  refine q_then ?_
  refine c_cond (b := decide ((i : Int) < (l.length : Int))) rfl (fun hc2 => ?_) (fun hc2 => ?_)
  · simp only [decide_eq_true_eq] at hc2
    have hit := Greedy.SInv.it (k := i) hy1 (by omega)
    refine c_skip ?_
    refine q_then ?_
    refine c_seq ?_
    refine c_block ?_
    refine c_region ?_
    refine o_pure (p_move (v := .int .i64 n) rfl) rfl rfl rfl ?_
    refine o_pure (p_move (v := .slice al l.length cl) rfl) rfl rfl rfl ?_
    refine o_pure (p_move (v := .int .i64 (i : Int)) rfl) rfl rfl rfl ?_
    refine o_pure (p_indexAddr (L := l) (T := tItem) (i := (i : Int)) rfl rfl (rd_base (i := 0) rfl hl) Try.underlying37 sz41 (by omega) (by omega)) rfl rfl rfl ?_
    refine o_pure (p_fieldAddrE rfl fo41_1) rfl rfl rfl ?_
    refine o_pure (p_loadF (i := i) (j := 1) (T := tItem) (L := l) (v := .int .i64 ((l[i]).size)) rfl (rd_base (i := 0) rfl hl) (by first | assumption | omega) sh3 rfl) rfl rfl rfl ?_
    refine o_pure (p_addb (p := n) (q := (l[i]).size) rfl rfl (by omega)) rfl rfl rfl ?_
    refine o_pure (p_assign (v := .int .i64 (n + (l[i]).size)) rfl) rfl rfl rfl ?_
    refine o_nil ?_
    refine q_block_normal (q_then ?_)
    refine c_region ?_
    refine o_pure (p_move (v := .int .i64 (i : Int)) rfl) rfl rfl rfl ?_
    refine o_pure (p_addb (p := (i : Int)) (q := 1) rfl rfl (by omega)) rfl rfl rfl ?_
    refine o_pure (p_assign (v := .int .i64 ((i : Int) + 1)) rfl) rfl rfl rfl ?_
    refine o_nil ?_
    refine q_round hK1 ((n + (l[i]).size), i + 1) ?_ ?_ ?_ ?_
    · clear hK1
      exact hI.nextS (by omega)
    · (try dsimp only); omega
    · exact Sub.cons rfl (Sub.cons rfl (Sub.cons rfl (Sub.nil _)))
    · exact fun _ hw => HeapIs.pick hw [0] (by decide) rfl
  · simp only [decide_eq_false_iff_not, Int.not_lt] at hc2
    refine c_exit ?_
    refine q_then_exit (q_then_exit (q_block_exit (q_then ?_)))
    refine c_seq ?_
    refine c_region ?_
    refine o_pure (p_move (v := .int .i64 n) rfl) rfl rfl rfl ?_
    refine o_pure (p_assign (v := .int .i64 n) rfl) rfl rfl rfl ?_
    refine o_nil ?_
    refine q_then ?_
    refine c_ret ?_
    obtain ⟨hd1, hd2⟩ := hI.done (by omega)
    have hr0 : (n : Int) = (Greedy.sizes l) := by
      exact hd1
    refine q_end0 (v := .int .i64 n) (rt1 rfl (r_tmp rfl)) (i := 0) rfl ?_
    exact (by have hcc := congrArg (fun (y0 : Int) => (.int .i64 y0 : Value)) hr0; exact hcc)

set_option maxHeartbeats 8000000 in
set_option maxRecDepth 100000 in
theorem hoardCheck_ok (h : DGreedy) (ah_0 : Option Addr) (ch_0 : Nat) : Fn0 Try.prog 27 [.agg #[.int .i64 h.room, .int .i64 h.floor, .slice ah_0 h.things.length ch_0]] (fun w => Rd tItem w ah_0 ch_0 h.things) (.int .i64 (Greedy.check h)) := by
  refine fn0 (nt := 69) (F0 := [(0, .agg #[.int .i64 h.room, .int .i64 h.floor, .slice ah_0 h.things.length ch_0])]) Try.func27 rfl Try.ntmps27 rfl rfl (fun w0 hpre => ?_)
  have hh_0 := hpre
  have hlhh_0 := hh_0.2.1
  refine c_seq ?_
  refine c_region ?_
  refine o_box (v := .agg #[.int .i64 h.room, .int .i64 h.floor, .slice ah_0 h.things.length ch_0]) rfl rfl (fun B1 => ?_)
  refine o_pure (p_assign (v := .int .i64 0) rfl) rfl rfl rfl ?_
  refine o_nil ?_
  refine q_then ?_
  refine c_seq ?_
  refine c_seq ?_
  refine c_region ?_
  refine o_pure (p_fieldAddr (B := B1) (j := 0) (j' := 0) rfl fo39_0 rfl) rfl rfl rfl ?_
  refine o_pure (p_load (i := 0) (v := .int .i64 h.room) rfl rfl sh3 rfl) rfl rfl rfl ?_
  refine o_call0 (v := .bool (Ref.between h.room (1 : Int) (1048576 : Int))) rfl (between_ok h.room (1 : Int) (1048576 : Int)) hf66 (fun _ _ => trivial) rfl ?_
  refine o_pure (p_not (b := (Ref.between h.room (1 : Int) (1048576 : Int))) rfl) rfl rfl rfl ?_
  refine o_pure (p_move (v := .bool (!(Ref.between h.room (1 : Int) (1048576 : Int)))) rfl) rfl rfl rfl ?_
  refine o_or (p := 14) 5 (!(Ref.between h.floor (0 : Int) (1125899906842624 : Int))) ?_ ?_ ?_
  · intro hb2 hk
    simp only [Bool.not_eq_false'] at hb2
    refine o_unguard 9 rfl rfl ?_
    refine o_pure (p_fieldAddr (B := B1) (j := 0) (j' := 1) rfl fo39_1 rfl) rfl rfl rfl ?_
    refine o_unguard 9 rfl rfl ?_
    refine o_pure (p_load (i := 0) (v := .int .i64 h.floor) rfl rfl sh3 rfl) rfl rfl rfl ?_
    refine o_unguard 9 rfl rfl ?_
    refine o_call0 (v := .bool (Ref.between h.floor (0 : Int) (1125899906842624 : Int))) rfl (between_ok h.floor (0 : Int) (1125899906842624 : Int)) hf66 (fun _ _ => trivial) rfl ?_
    refine o_unguard 9 rfl rfl ?_
    refine o_pure (p_not (b := (Ref.between h.floor (0 : Int) (1125899906842624 : Int))) rfl) rfl rfl rfl ?_
    refine o_pure (p_pick_false (v := .bool (!(Ref.between h.floor (0 : Int) (1125899906842624 : Int)))) rfl rfl) rfl rfl rfl ?_
    exact o_sub (Sub.cons rfl (Sub.skip rfl (Sub.skip rfl (Sub.skip rfl (Sub.skip rfl (Sub.skip rfl (Sub.skip rfl (Sub.refl _)))))))) hk
  · intro hb2 hk
    refine o_guard_no rfl 9 rfl rfl rfl rfl rfl ?_
    refine o_guard_no rfl 9 rfl rfl rfl rfl rfl ?_
    refine o_guard_no rfl 9 rfl rfl rfl rfl rfl ?_
    refine o_guard_no rfl 9 rfl rfl rfl rfl rfl ?_
    refine o_pure (p_pick_true (u := .bool true) rfl rfl) rfl rfl rfl ?_
    exact o_sub (Sub.cons rfl (Sub.skip rfl (Sub.skip rfl (Sub.skip rfl (Sub.skip rfl (Sub.skip rfl (Sub.skip rfl (Sub.refl _)))))))) hk
  refine o_nil ?_
  refine q_then ?_
  refine c_cond (b := ((!(Ref.between h.room (1 : Int) (1048576 : Int))) || (!(Ref.between h.floor (0 : Int) (1125899906842624 : Int))))) rfl (fun hc3 => ?_) (fun hc3 => ?_)
  · simp only [Bool.or_eq_true, Bool.not_eq_true'] at hc3
    refine c_seq ?_
    refine c_region ?_
    refine o_pure (p_assign (v := .int .i64 3) rfl) rfl rfl rfl ?_
    refine o_nil ?_
    refine q_then ?_
    refine c_ret ?_
    refine q_then_ret ?_
    have hr0 : (3 : Int) = (Greedy.check h) := by
      first | exact Greedy.chk_items hr0 (by omega) (hO.dup (k := k) (by omega) hg (by omega) (by omega) (by assumption)) (by decide) | exact Greedy.chk_range (by simp [Ref.between] at *; omega) | exact Greedy.chk_many hr0 (by assumption) | exact Greedy.chk_items hr0 (by omega) (hI.bad (by omega) hgb) (by decide) | exact Greedy.chk_full hr0 (by omega) hdone.1 (by assumption) | exact Greedy.chk_fine hr0 (by omega) hdone.1 (by assumption)
    refine q_end0 (v := .int .i64 3) (rt1 rfl (r_tmp rfl)) (i := 1) rfl ?_
    exact (by have hcc := congrArg (fun (y0 : Int) => (.int .i64 y0 : Value)) hr0; exact hcc)
  · simp only [Bool.or_eq_false_iff, Bool.not_eq_false'] at hc3
    have hr0 : ((1 ≤ h.room ∧ h.room ≤ 1048576) ∧ 0 ≤ h.floor) ∧ h.floor ≤ 1125899906842624 := by simp [Ref.between] at hc3; omega
    refine c_skip ?_
    refine q_then ?_
    refine c_seq ?_
    refine c_seq ?_
    refine c_region ?_
    refine o_pure (p_fieldAddr (B := B1) (j := 0) (j' := 2) rfl fo39_2 rfl) rfl rfl rfl ?_
    refine o_pure (p_load (i := 0) (v := .slice ah_0 h.things.length ch_0) rfl rfl sh37 rfl) rfl rfl rfl ?_
    refine o_pure (p_len_slice (len := h.things.length) rfl rfl Try.underlying37) rfl rfl rfl ?_
    refine o_pure (p_gt (p := (h.things.length : Int)) (q := 40) rfl rfl) rfl rfl rfl ?_
    refine o_nil ?_
    refine q_then ?_
    refine c_cond (b := decide (40 < (h.things.length : Int))) rfl (fun hc4 => ?_) (fun hc4 => ?_)
    · simp only [decide_eq_true_eq] at hc4
      refine c_seq ?_
      refine c_region ?_
      refine o_pure (p_assign (v := .int .i64 2) rfl) rfl rfl rfl ?_
      refine o_nil ?_
      refine q_then ?_
      refine c_ret ?_
      refine q_then_ret ?_
      have hr0 : (2 : Int) = (Greedy.check h) := by
        first | exact Greedy.chk_items hr0 (by omega) (hO.dup (k := k) (by omega) hg (by omega) (by omega) (by assumption)) (by decide) | exact Greedy.chk_range (by simp [Ref.between] at *; omega) | exact Greedy.chk_many hr0 (by assumption) | exact Greedy.chk_items hr0 (by omega) (hI.bad (by omega) hgb) (by decide) | exact Greedy.chk_full hr0 (by omega) hdone.1 (by assumption) | exact Greedy.chk_fine hr0 (by omega) hdone.1 (by assumption)
      refine q_end0 (v := .int .i64 2) (rt1 rfl (r_tmp rfl)) (i := 1) rfl ?_
      exact (by have hcc := congrArg (fun (y0 : Int) => (.int .i64 y0 : Value)) hr0; exact hcc)
    · simp only [decide_eq_false_iff_not, Int.not_lt] at hc4
      refine c_skip ?_
      refine q_then ?_
      refine c_seq ?_
      refine c_seq ?_
      refine c_region ?_
      refine o_pure (p_assign (v := .int .i64 0) rfl) rfl rfl rfl ?_
      refine o_nil ?_
      refine q_then ?_
      refine c_block ?_
      refine c_loop (St := Nat)
        (fun i => [(1, .pointer (some ⟨B1, 0, none⟩)), (3, .int .i64 (i : Int))])
        (fun i => [box B1 [.int .i64 h.room, .int .i64 h.floor, .slice ah_0 h.things.length ch_0] 39, base w0])
        (fun i => Greedy.IInv h.floor h.things i)
        (fun i => h.things.length - i)
        0 ?_ (Sub.cons rfl (Sub.cons rfl (Sub.nil _))) (fun _ hw => hw) ?_
      · exact Greedy.IInv.start _ _
      rintro i hI K hK5
      have hO := hI
      show SC _ _ Try.prog 69 w0 _ _ [(1, .pointer (some ⟨B1, 0, none⟩)), (3, .int .i64 (i : Int))] [box B1 [.int .i64 h.room, .int .i64 h.floor, .slice ah_0 h.things.length ch_0] 39, base w0]
      refine c_seq ?_
      refine c_seq ?_
      refine c_region ?_
      refine o_pure (p_move (v := .int .i64 (i : Int)) rfl) rfl rfl rfl ?_
      refine o_pure (p_fieldAddr (B := B1) (j := 0) (j' := 2) rfl fo39_2 rfl) rfl rfl rfl ?_
      refine o_pure (p_load (i := 0) (v := .slice ah_0 h.things.length ch_0) rfl rfl sh37 rfl) rfl rfl rfl ?_
      refine o_pure (p_len_slice (len := h.things.length) rfl rfl Try.underlying37) rfl rfl rfl ?_
      refine o_pure (p_lt (p := (i : Int)) (q := (h.things.length : Int)) rfl rfl) rfl rfl rfl ?_
      refine o_nil ?_
      refine q_then ?_
      refine c_cond (b := decide ((i : Int) < (h.things.length : Int))) rfl (fun hc6 => ?_) (fun hc6 => ?_)
      · simp only [decide_eq_true_eq] at hc6
        refine c_skip ?_
        refine q_then ?_
        refine c_seq ?_
        refine c_block ?_
        refine c_seq ?_
        refine c_seq ?_
        refine c_draw hmix (by kernel_rfl) ?_
        refine w_pure (p_fieldAddr (B := B1) (j := 0) (j' := 2) rfl fo39_2 rfl) rfl rfl rfl ?_
        refine w_pure (p_load (i := 0) (v := .slice ah_0 h.things.length ch_0) rfl rfl sh37 rfl) rfl rfl rfl ?_
        refine w_pure (p_move (v := .int .i64 (i : Int)) rfl) rfl rfl rfl ?_
        refine w_pure (p_indexAddr (L := h.things) (T := tItem) (i := (i : Int)) rfl rfl (rd_base (i := 1) rfl hh_0) Try.underlying37 sz41 (by omega) (by omega)) rfl rfl rfl ?_
        refine w_pure (p_loadEn (i := i) (T := tItem) (L := h.things) (vs := [.int .i64 ((h.things[i]).key), .int .i64 ((h.things[i]).size), .int .i64 ((h.things[i]).cost), .int .i64 ((h.things[i]).worth)]) rfl (rd_base (i := 1) rfl hh_0) (by first | assumption | omega) sh41 rfl) rfl rfl rfl ?_
        refine w_call0 (v := .bool (Greedy.right (h.things[i]))) rfl (hoardThing_ok (h.things[i])) hf28 (fun _ _ => trivial) rfl ?_
        refine w_pure (p_not (b := (Greedy.right (h.things[i]))) rfl) rfl rfl rfl ?_
        refine w_pure (p_move (v := .bool (!(Greedy.right (h.things[i])))) rfl) rfl rfl rfl ?_
        refine w_or (p := 44) 11 (!(Ref.between ((h.things[i]).worth) h.floor (1125899906842624 : Int))) ?_ ?_ ?_
        · intro hb7 hk
          simp only [Bool.not_eq_false'] at hb7
          refine w_unguard 33 rfl rfl ?_
          refine w_pure (p_fieldAddr (B := B1) (j := 0) (j' := 2) rfl fo39_2 rfl) rfl rfl rfl ?_
          refine w_unguard 33 rfl rfl ?_
          refine w_pure (p_load (i := 0) (v := .slice ah_0 h.things.length ch_0) rfl rfl sh37 rfl) rfl rfl rfl ?_
          refine w_unguard 33 rfl rfl ?_
          refine w_pure (p_move (v := .int .i64 (i : Int)) rfl) rfl rfl rfl ?_
          refine w_unguard 33 rfl rfl ?_
          refine w_pure (p_indexAddr (L := h.things) (T := tItem) (i := (i : Int)) rfl rfl (rd_base (i := 1) rfl hh_0) Try.underlying37 sz41 (by omega) (by omega)) rfl rfl rfl ?_
          refine w_unguard 33 rfl rfl ?_
          refine w_pure (p_fieldAddrE rfl fo41_3) rfl rfl rfl ?_
          refine w_unguard 33 rfl rfl ?_
          refine w_pure (p_loadF (i := i) (j := 3) (T := tItem) (L := h.things) (v := .int .i64 ((h.things[i]).worth)) rfl (rd_base (i := 1) rfl hh_0) (by first | assumption | omega) sh3 rfl) rfl rfl rfl ?_
          refine w_unguard 33 rfl rfl ?_
          refine w_pure (p_fieldAddr (B := B1) (j := 0) (j' := 1) rfl fo39_1 rfl) rfl rfl rfl ?_
          refine w_unguard 33 rfl rfl ?_
          refine w_pure (p_load (i := 0) (v := .int .i64 h.floor) rfl rfl sh3 rfl) rfl rfl rfl ?_
          refine w_unguard 33 rfl rfl ?_
          refine w_call0 (v := .bool (Ref.between ((h.things[i]).worth) h.floor (1125899906842624 : Int))) rfl (between_ok ((h.things[i]).worth) h.floor (1125899906842624 : Int)) hf66 (fun _ _ => trivial) rfl ?_
          refine w_unguard 33 rfl rfl ?_
          refine w_pure (p_not (b := (Ref.between ((h.things[i]).worth) h.floor (1125899906842624 : Int))) rfl) rfl rfl rfl ?_
          refine w_pure (p_pick_false (v := .bool (!(Ref.between ((h.things[i]).worth) h.floor (1125899906842624 : Int)))) rfl rfl) rfl rfl rfl ?_
          exact w_sub (Sub.cons rfl (Sub.skip rfl (Sub.skip rfl (Sub.skip rfl (Sub.skip rfl (Sub.skip rfl (Sub.skip rfl (Sub.skip rfl (Sub.skip rfl (Sub.skip rfl (Sub.skip rfl (Sub.skip rfl (Sub.skip rfl (Sub.refl _)))))))))))))) hk
        · intro hb7 hk
          refine w_guard_no rfl 33 rfl rfl rfl rfl rfl ?_
          refine w_guard_no rfl 33 rfl rfl rfl rfl rfl ?_
          refine w_guard_no rfl 33 rfl rfl rfl rfl rfl ?_
          refine w_guard_no rfl 33 rfl rfl rfl rfl rfl ?_
          refine w_guard_no rfl 33 rfl rfl rfl rfl rfl ?_
          refine w_guard_no rfl 33 rfl rfl rfl rfl rfl ?_
          refine w_guard_no rfl 33 rfl rfl rfl rfl rfl ?_
          refine w_guard_no rfl 33 rfl rfl rfl rfl rfl ?_
          refine w_guard_no rfl 33 rfl rfl rfl rfl rfl ?_
          refine w_guard_no rfl 33 rfl rfl rfl rfl rfl ?_
          refine w_pure (p_pick_true (u := .bool true) rfl rfl) rfl rfl rfl ?_
          exact w_sub (Sub.cons rfl (Sub.skip rfl (Sub.skip rfl (Sub.skip rfl (Sub.skip rfl (Sub.skip rfl (Sub.skip rfl (Sub.skip rfl (Sub.skip rfl (Sub.skip rfl (Sub.skip rfl (Sub.skip rfl (Sub.skip rfl (Sub.refl _)))))))))))))) hk
        refine w_nil ?_
        refine q_then ?_
        refine c_cond (b := ((!(Greedy.right (h.things[i]))) || (!(Ref.between ((h.things[i]).worth) h.floor (1125899906842624 : Int))))) rfl (fun hc8 => ?_) (fun hc8 => ?_)
        · simp only [Bool.or_eq_true, Bool.not_eq_true'] at hc8
          have hgb : (Greedy.right h.things[i] = false ∨ (h.things[i]).worth < h.floor) ∨ 1125899906842624 < (h.things[i]).worth := by simp [Ref.between] at hc8; rcases hc8 with hc8 | hc8; exact .inl (.inl hc8); by_cases h9 : (h.things[i]).worth < h.floor; exact .inl (.inr h9); exact .inr (by omega)
          refine c_seq ?_
          refine c_region ?_
          refine o_pure (p_assign (v := .int .i64 3) rfl) rfl rfl rfl ?_
          refine o_nil ?_
          refine q_then ?_
          refine c_ret ?_
          refine q_then_ret (q_block_ret (q_then_ret (q_then_ret (q_block_ret (q_then_ret ?_)))))
          have hr0 : (3 : Int) = (Greedy.check h) := by
            first | exact Greedy.chk_items hr0 (by omega) (hO.dup (k := k) (by omega) hg (by omega) (by omega) (by assumption)) (by decide) | exact Greedy.chk_range (by simp [Ref.between] at *; omega) | exact Greedy.chk_many hr0 (by assumption) | exact Greedy.chk_items hr0 (by omega) (hI.bad (by omega) hgb) (by decide) | exact Greedy.chk_full hr0 (by omega) hdone.1 (by assumption) | exact Greedy.chk_fine hr0 (by omega) hdone.1 (by assumption)
          refine q_end0 (v := .int .i64 3) (rt1 rfl (r_tmp rfl)) (i := 1) rfl ?_
          exact (by have hcc := congrArg (fun (y0 : Int) => (.int .i64 y0 : Value)) hr0; exact hcc)
        · simp only [Bool.or_eq_false_iff, Bool.not_eq_false'] at hc8
          have hg : (Greedy.right h.things[i] = true ∧ h.floor ≤ (h.things[i]).worth) ∧ (h.things[i]).worth ≤ 1125899906842624 := by simp [Ref.between] at hc8; exact ⟨⟨hc8.1, by omega⟩, by omega⟩
          refine c_skip ?_
          refine q_then ?_
          refine c_seq ?_
          refine c_region ?_
          refine o_pure (p_assign (v := .int .i64 0) rfl) rfl rfl rfl ?_
          refine o_nil ?_
          refine q_then ?_
          refine c_block ?_
          refine c_loop (St := Nat)
            (fun k => [(1, .pointer (some ⟨B1, 0, none⟩)), (3, .int .i64 (i : Int)), (4, .int .i64 (k : Int))])
            (fun k => [box B1 [.int .i64 h.room, .int .i64 h.floor, .slice ah_0 h.things.length ch_0] 39, base w0])
            (fun k => Greedy.KInv h.things i k)
            (fun k => i - k)
            0 ?_ (Sub.cons rfl (Sub.cons rfl (Sub.cons rfl (Sub.nil _)))) (fun _ hw => hw) ?_
          · exact Greedy.KInv.start (by omega)
          rintro k hI K hK9
          show SC _ _ Try.prog 69 w0 _ _ [(1, .pointer (some ⟨B1, 0, none⟩)), (3, .int .i64 (i : Int)), (4, .int .i64 (k : Int))] [box B1 [.int .i64 h.room, .int .i64 h.floor, .slice ah_0 h.things.length ch_0] 39, base w0]
          refine c_seq ?_
          refine c_seq ?_
          refine c_region ?_
          refine o_pure (p_move (v := .int .i64 (k : Int)) rfl) rfl rfl rfl ?_
          refine o_pure (p_move (v := .int .i64 (i : Int)) rfl) rfl rfl rfl ?_
          refine o_pure (p_lt (p := (k : Int)) (q := (i : Int)) rfl rfl) rfl rfl rfl ?_
          refine o_nil ?_
          refine q_then ?_
          refine c_cond (b := decide ((k : Int) < (i : Int))) rfl (fun hc10 => ?_) (fun hc10 => ?_)
          · simp only [decide_eq_true_eq] at hc10
            refine c_skip ?_
            refine q_then ?_
            refine c_seq ?_
            refine c_block ?_
            refine c_seq ?_
            refine c_draw hmix (by kernel_rfl) ?_
            refine w_pure (p_fieldAddr (B := B1) (j := 0) (j' := 2) rfl fo39_2 rfl) rfl rfl rfl ?_
            refine w_pure (p_load (i := 0) (v := .slice ah_0 h.things.length ch_0) rfl rfl sh37 rfl) rfl rfl rfl ?_
            refine w_pure (p_move (v := .int .i64 (k : Int)) rfl) rfl rfl rfl ?_
            refine w_pure (p_indexAddr (L := h.things) (T := tItem) (i := (k : Int)) rfl rfl (rd_base (i := 1) rfl hh_0) Try.underlying37 sz41 (by omega) (by omega)) rfl rfl rfl ?_
            refine w_pure (p_fieldAddrE rfl fo41_0) rfl rfl rfl ?_
            refine w_pure (p_loadF (i := k) (j := 0) (T := tItem) (L := h.things) (v := .int .i64 ((h.things[k]).key)) rfl (rd_base (i := 1) rfl hh_0) (by first | assumption | omega) sh3 rfl) rfl rfl rfl ?_
            refine w_pure (p_fieldAddr (B := B1) (j := 0) (j' := 2) rfl fo39_2 rfl) rfl rfl rfl ?_
            refine w_pure (p_load (i := 0) (v := .slice ah_0 h.things.length ch_0) rfl rfl sh37 rfl) rfl rfl rfl ?_
            refine w_pure (p_move (v := .int .i64 (i : Int)) rfl) rfl rfl rfl ?_
            refine w_pure (p_indexAddr (L := h.things) (T := tItem) (i := (i : Int)) rfl rfl (rd_base (i := 1) rfl hh_0) Try.underlying37 sz41 (by omega) (by omega)) rfl rfl rfl ?_
            refine w_pure (p_fieldAddrE rfl fo41_0) rfl rfl rfl ?_
            refine w_pure (p_loadF (i := i) (j := 0) (T := tItem) (L := h.things) (v := .int .i64 ((h.things[i]).key)) rfl (rd_base (i := 1) rfl hh_0) (by first | assumption | omega) sh3 rfl) rfl rfl rfl ?_
            refine w_pure (p_eq (p := (h.things[k]).key) (q := (h.things[i]).key) rfl rfl) rfl rfl rfl ?_
            refine w_nil ?_
            refine q_then ?_
            refine c_cond (b := ((h.things[k]).key == (h.things[i]).key)) rfl (fun hc11 => ?_) (fun hc11 => ?_)
            · simp only [beq_iff_eq] at hc11
              refine c_seq ?_
              refine c_region ?_
              refine o_pure (p_assign (v := .int .i64 6) rfl) rfl rfl rfl ?_
              refine o_nil ?_
              refine q_then ?_
              refine c_ret ?_
              refine q_block_ret (q_then_ret (q_then_ret (q_block_ret (q_block_ret (q_then_ret (q_then_ret (q_block_ret (q_then_ret ?_))))))))
              have hr0 : (6 : Int) = (Greedy.check h) := by
                first | exact Greedy.chk_items hr0 (by omega) (hO.dup (k := k) (by omega) hg (by omega) (by omega) (by assumption)) (by decide) | exact Greedy.chk_range (by simp [Ref.between] at *; omega) | exact Greedy.chk_many hr0 (by assumption) | exact Greedy.chk_items hr0 (by omega) (hI.bad (by omega) hgb) (by decide) | exact Greedy.chk_full hr0 (by omega) hdone.1 (by assumption) | exact Greedy.chk_fine hr0 (by omega) hdone.1 (by assumption)
              refine q_end0 (v := .int .i64 6) (rt1 rfl (r_tmp rfl)) (i := 1) rfl ?_
              exact (by have hcc := congrArg (fun (y0 : Int) => (.int .i64 y0 : Value)) hr0; exact hcc)
            · simp only [beq_eq_false_iff_ne, ne_eq] at hc11
              refine c_skip ?_
              refine q_block_normal (q_then ?_)
              refine c_region ?_
              refine o_pure (p_move (v := .int .i64 (k : Int)) rfl) rfl rfl rfl ?_
              refine o_pure (p_addb (p := (k : Int)) (q := 1) rfl rfl (by omega)) rfl rfl rfl ?_
              refine o_pure (p_assign (v := .int .i64 ((k : Int) + 1)) rfl) rfl rfl rfl ?_
              refine o_nil ?_
              refine q_round hK9 (k + 1) ?_ ?_ ?_ ?_
              · clear hK9
                exact hI.next (by omega) (by omega) (by omega) (by assumption)
              · (try dsimp only); omega
              · exact Sub.cons rfl (Sub.cons rfl (Sub.cons rfl (Sub.nil _)))
              · exact fun _ hw => HeapIs.pick hw [0, 1] (by decide) rfl
          · simp only [decide_eq_false_iff_not, Int.not_lt] at hc10
            refine c_exit ?_
            refine q_then_exit (q_then_exit (q_block_exit (q_block_normal (q_then ?_))))
            refine c_region ?_
            refine o_pure (p_move (v := .int .i64 (i : Int)) rfl) rfl rfl rfl ?_
            refine o_pure (p_addb (p := (i : Int)) (q := 1) rfl rfl (by omega)) rfl rfl rfl ?_
            refine o_pure (p_assign (v := .int .i64 ((i : Int) + 1)) rfl) rfl rfl rfl ?_
            refine o_nil ?_
            refine q_round hK5 (i + 1) ?_ ?_ ?_ ?_
            · clear hK5
              exact hO.on (by omega) hg hI (by omega)
            · (try dsimp only); omega
            · exact Sub.cons rfl (Sub.cons rfl (Sub.nil _))
            · exact fun _ hw => HeapIs.pick hw [0, 1] (by decide) rfl
      · simp only [decide_eq_false_iff_not, Int.not_lt] at hc6
        have hdone := hI.done (by omega)
        have hfine : Greedy.Fine h.things := ⟨by omega, hdone.2⟩
        refine c_exit ?_
        refine q_then_exit (q_then_exit (q_block_exit (q_then ?_)))
        refine c_seq ?_
        refine c_seq ?_
        refine c_draw hmix (by kernel_rfl) ?_
        refine w_pure (p_fieldAddr (B := B1) (j := 0) (j' := 2) rfl fo39_2 rfl) rfl rfl rfl ?_
        refine w_pure (p_load (i := 0) (v := .slice ah_0 h.things.length ch_0) rfl rfl sh37 rfl) rfl rfl rfl ?_
        refine w_call0 (v := .int .i64 (Greedy.sizes h.things)) rfl (hoardSizes_ok h.things ah_0 ch_0 (by first | assumption | exact hok.fine | exact hy1.fine | exact (hI.fits).fine | exact Greedy.Fine.of_done hdone (by omega))) hf30 (fun w hw => (rd_base (i := 1) rfl hh_0) w hw) rfl ?_
        refine w_pure (p_fieldAddr (B := B1) (j := 0) (j' := 0) rfl fo39_0 rfl) rfl rfl rfl ?_
        refine w_pure (p_load (i := 0) (v := .int .i64 h.room) rfl rfl sh3 rfl) rfl rfl rfl ?_
        refine w_pure (p_gt (p := (Greedy.sizes h.things)) (q := h.room) rfl rfl) rfl rfl rfl ?_
        refine w_nil ?_
        refine q_then ?_
        refine c_cond (b := decide (h.room < (Greedy.sizes h.things))) rfl (fun hc12 => ?_) (fun hc12 => ?_)
        · simp only [decide_eq_true_eq] at hc12
          refine c_seq ?_
          refine c_region ?_
          refine o_pure (p_assign (v := .int .i64 8) rfl) rfl rfl rfl ?_
          refine o_nil ?_
          refine q_then ?_
          refine c_ret ?_
          refine q_then_ret ?_
          have hr0 : (8 : Int) = (Greedy.check h) := by
            first | exact Greedy.chk_items hr0 (by omega) (hO.dup (k := k) (by omega) hg (by omega) (by omega) (by assumption)) (by decide) | exact Greedy.chk_range (by simp [Ref.between] at *; omega) | exact Greedy.chk_many hr0 (by assumption) | exact Greedy.chk_items hr0 (by omega) (hI.bad (by omega) hgb) (by decide) | exact Greedy.chk_full hr0 (by omega) hdone.1 (by assumption) | exact Greedy.chk_fine hr0 (by omega) hdone.1 (by assumption)
          refine q_end0 (v := .int .i64 8) (rt1 rfl (r_tmp rfl)) (i := 1) rfl ?_
          exact (by have hcc := congrArg (fun (y0 : Int) => (.int .i64 y0 : Value)) hr0; exact hcc)
        · simp only [decide_eq_false_iff_not, Int.not_lt] at hc12
          refine c_skip ?_
          refine q_then ?_
          refine c_seq ?_
          refine c_region ?_
          refine o_pure (p_assign (v := .int .i64 0) rfl) rfl rfl rfl ?_
          refine o_nil ?_
          refine q_then ?_
          refine c_ret ?_
          have hr0 : (0 : Int) = (Greedy.check h) := by
            first | exact Greedy.chk_items hr0 (by omega) (hO.dup (k := k) (by omega) hg (by omega) (by omega) (by assumption)) (by decide) | exact Greedy.chk_range (by simp [Ref.between] at *; omega) | exact Greedy.chk_many hr0 (by assumption) | exact Greedy.chk_items hr0 (by omega) (hI.bad (by omega) hgb) (by decide) | exact Greedy.chk_full hr0 (by omega) hdone.1 (by assumption) | exact Greedy.chk_fine hr0 (by omega) hdone.1 (by assumption)
          refine q_end0 (v := .int .i64 0) (rt1 rfl (r_tmp rfl)) (i := 1) rfl ?_
          exact (by have hcc := congrArg (fun (y0 : Int) => (.int .i64 y0 : Value)) hr0; exact hcc)

set_option maxHeartbeats 8000000 in
set_option maxRecDepth 100000 in
theorem hoardLeast_ok (l : List DItem) (al : Option Addr) (cl : Nat) (hy1 : 0 < l.length) : Fn0 Try.prog 31 [.slice al l.length cl] (fun w => Rd tItem w al cl l) (.int .i64 (Greedy.least l : Int)) := by
  refine fn0 (nt := 31) (F0 := [(0, .slice al l.length cl)]) Try.func31 rfl Try.ntmps31 rfl rfl (fun w0 hpre => ?_)
  have hl := hpre
  have hlhl := hl.2.1
  refine c_seq ?_
  refine c_region ?_
  refine o_pure (p_assign (v := .int .i64 0) rfl) rfl rfl rfl ?_
  refine o_nil ?_
  refine q_then ?_
  refine c_seq ?_
  refine c_seq ?_
  refine c_region ?_
  refine o_pure (p_assign (v := .int .i64 0) rfl) rfl rfl rfl ?_
  refine o_nil ?_
  refine q_then ?_
  refine c_block ?_
  refine c_loop (St := Nat)
    (fun i => [(0, .slice al l.length cl), (3, .int .i64 (i : Int))])
    (fun i => [base w0])
    (fun i => Greedy.LInv l i)
    (fun i => l.length - i)
    0 ?_ (Sub.cons rfl (Sub.cons rfl (Sub.nil _))) (fun _ hw => hw) ?_
  · exact Greedy.LInv.start _
  rintro i hI K hK1
  have hO := hI
  show SC _ _ Try.prog 31 w0 _ _ [(0, .slice al l.length cl), (3, .int .i64 (i : Int))] [base w0]
  refine c_seq ?_
  refine c_seq ?_
  refine c_region ?_
  refine o_pure (p_move (v := .int .i64 (i : Int)) rfl) rfl rfl rfl ?_
  refine o_pure (p_move (v := .slice al l.length cl) rfl) rfl rfl rfl ?_
  refine o_pure (p_len_slice (len := l.length) rfl rfl Try.underlying37) rfl rfl rfl ?_
  refine o_pure (p_lt (p := (i : Int)) (q := (l.length : Int)) rfl rfl) rfl rfl rfl ?_
  refine o_nil ?_
  refine q_then ?_
  refine c_cond (b := decide ((i : Int) < (l.length : Int))) rfl (fun hc2 => ?_) (fun hc2 => ?_)
  · simp only [decide_eq_true_eq] at hc2
    refine c_skip ?_
    refine q_then ?_
    refine c_seq ?_
    refine c_block ?_
    refine c_seq ?_
    refine c_region ?_
    refine o_pure (p_assign (v := .bool true) rfl) rfl rfl rfl ?_
    refine o_nil ?_
    refine q_then ?_
    refine c_seq ?_
    refine c_seq ?_
    refine c_region ?_
    refine o_pure (p_assign (v := .int .i64 0) rfl) rfl rfl rfl ?_
    refine o_nil ?_
    refine q_then ?_
    refine c_block ?_
    refine c_loop (St := Bool × Nat)
      (fun ⟨best, k⟩ => [(0, .slice al l.length cl), (3, .int .i64 (i : Int)), (4, .bool best), (5, .int .i64 (k : Int))])
      (fun ⟨best, k⟩ => [base w0])
      (fun ⟨best, k⟩ => Greedy.MInv l i best k)
      (fun ⟨best, k⟩ => l.length - k)
      (true, 0) ?_ (Sub.cons rfl (Sub.cons rfl (Sub.cons rfl (Sub.cons rfl (Sub.nil _))))) (fun _ hw => hw) ?_
    · exact Greedy.MInv.start (by omega)
    rintro ⟨best, k⟩ hI K hK3
    show SC _ _ Try.prog 31 w0 _ _ [(0, .slice al l.length cl), (3, .int .i64 (i : Int)), (4, .bool best), (5, .int .i64 (k : Int))] [base w0]
    refine c_seq ?_
    refine c_seq ?_
    refine c_region ?_
    refine o_pure (p_move (v := .int .i64 (k : Int)) rfl) rfl rfl rfl ?_
    refine o_pure (p_move (v := .slice al l.length cl) rfl) rfl rfl rfl ?_
    refine o_pure (p_len_slice (len := l.length) rfl rfl Try.underlying37) rfl rfl rfl ?_
    refine o_pure (p_lt (p := (k : Int)) (q := (l.length : Int)) rfl rfl) rfl rfl rfl ?_
    refine o_nil ?_
    refine q_then ?_
    refine c_cond (b := decide ((k : Int) < (l.length : Int))) rfl (fun hc4 => ?_) (fun hc4 => ?_)
    · simp only [decide_eq_true_eq] at hc4
      refine c_skip ?_
      refine q_then ?_
      refine c_seq ?_
      refine c_block ?_
      refine c_seq ?_
      refine c_draw hmix (by kernel_rfl) ?_
      refine w_pure (p_move (v := .slice al l.length cl) rfl) rfl rfl rfl ?_
      refine w_pure (p_move (v := .int .i64 (k : Int)) rfl) rfl rfl rfl ?_
      refine w_pure (p_indexAddr (L := l) (T := tItem) (i := (k : Int)) rfl rfl (rd_base (i := 0) rfl hl) Try.underlying37 sz41 (by omega) (by omega)) rfl rfl rfl ?_
      refine w_pure (p_fieldAddrE rfl fo41_3) rfl rfl rfl ?_
      refine w_pure (p_loadF (i := k) (j := 3) (T := tItem) (L := l) (v := .int .i64 ((l[k]).worth)) rfl (rd_base (i := 0) rfl hl) (by first | assumption | omega) sh3 rfl) rfl rfl rfl ?_
      refine w_pure (p_move (v := .slice al l.length cl) rfl) rfl rfl rfl ?_
      refine w_pure (p_move (v := .int .i64 (i : Int)) rfl) rfl rfl rfl ?_
      refine w_pure (p_indexAddr (L := l) (T := tItem) (i := (i : Int)) rfl rfl (rd_base (i := 0) rfl hl) Try.underlying37 sz41 (by omega) (by omega)) rfl rfl rfl ?_
      refine w_pure (p_fieldAddrE rfl fo41_3) rfl rfl rfl ?_
      refine w_pure (p_loadF (i := i) (j := 3) (T := tItem) (L := l) (v := .int .i64 ((l[i]).worth)) rfl (rd_base (i := 0) rfl hl) (by first | assumption | omega) sh3 rfl) rfl rfl rfl ?_
      refine w_pure (p_lt (p := (l[k]).worth) (q := (l[i]).worth) rfl rfl) rfl rfl rfl ?_
      refine w_nil ?_
      refine q_then ?_
      refine c_cond (b := decide ((l[k]).worth < (l[i]).worth)) rfl (fun hc5 => ?_) (fun hc5 => ?_)
      · simp only [decide_eq_true_eq] at hc5
        refine c_region ?_
        refine o_pure (p_assign (v := .bool false) rfl) rfl rfl rfl ?_
        refine o_nil ?_
        refine q_block_normal (q_then ?_)
        refine c_region ?_
        refine o_pure (p_move (v := .int .i64 (k : Int)) rfl) rfl rfl rfl ?_
        refine o_pure (p_addb (p := (k : Int)) (q := 1) rfl rfl (by omega)) rfl rfl rfl ?_
        refine o_pure (p_assign (v := .int .i64 ((k : Int) + 1)) rfl) rfl rfl rfl ?_
        refine o_nil ?_
        refine q_round hK3 (false, k + 1) ?_ ?_ ?_ ?_
        · clear hK3
          first | exact hI.less (by omega) (by omega) (by assumption) | exact hI.not (by omega) (by omega) (by assumption)
        · (try dsimp only); omega
        · exact Sub.cons rfl (Sub.cons rfl (Sub.cons rfl (Sub.cons rfl (Sub.nil _))))
        · exact fun _ hw => HeapIs.pick hw [0] (by decide) rfl
      · simp only [decide_eq_false_iff_not, Int.not_lt] at hc5
        refine c_skip ?_
        refine q_block_normal (q_then ?_)
        refine c_region ?_
        refine o_pure (p_move (v := .int .i64 (k : Int)) rfl) rfl rfl rfl ?_
        refine o_pure (p_addb (p := (k : Int)) (q := 1) rfl rfl (by omega)) rfl rfl rfl ?_
        refine o_pure (p_assign (v := .int .i64 ((k : Int) + 1)) rfl) rfl rfl rfl ?_
        refine o_nil ?_
        refine q_round hK3 (best, k + 1) ?_ ?_ ?_ ?_
        · clear hK3
          first | exact hI.less (by omega) (by omega) (by assumption) | exact hI.not (by omega) (by omega) (by assumption)
        · (try dsimp only); omega
        · exact Sub.cons rfl (Sub.cons rfl (Sub.cons rfl (Sub.cons rfl (Sub.nil _))))
        · exact fun _ hw => HeapIs.pick hw [0] (by decide) rfl
    · simp only [decide_eq_false_iff_not, Int.not_lt] at hc4
      refine c_exit ?_
      refine q_then_exit (q_then_exit (q_block_exit (q_then ?_)))
      refine c_seq ?_
      refine c_region ?_
      refine o_pure (p_move (v := .bool best) rfl) rfl rfl rfl ?_
      refine o_nil ?_
      refine q_then ?_
      refine c_cond (b := best) rfl (fun hc6 => ?_) (fun hc6 => ?_)
      · skip
        refine c_seq ?_
        refine c_region ?_
        refine o_pure (p_move (v := .int .i64 (i : Int)) rfl) rfl rfl rfl ?_
        refine o_pure (p_assign (v := .int .i64 (i : Int)) rfl) rfl rfl rfl ?_
        refine o_nil ?_
        refine q_then ?_
        refine c_ret ?_
        refine q_block_ret (q_then_ret (q_then_ret (q_block_ret (q_then_ret ?_))))
        have hr0 : ((i : Int) : Int) = (Greedy.least l : Int) := by
          first | exact Greedy.MInv.found' hO hI (by omega) (by assumption) | exact (hI.done (by omega) hy1).elim
        refine q_end0 (v := .int .i64 (i : Int)) (rt1 rfl (r_tmp rfl)) (i := 0) rfl ?_
        exact (by have hcc := congrArg (fun (y0 : Int) => (.int .i64 y0 : Value)) hr0; exact hcc)
      · skip
        refine c_skip ?_
        refine q_block_normal (q_then ?_)
        refine c_region ?_
        refine o_pure (p_move (v := .int .i64 (i : Int)) rfl) rfl rfl rfl ?_
        refine o_pure (p_addb (p := (i : Int)) (q := 1) rfl rfl (by omega)) rfl rfl rfl ?_
        refine o_pure (p_assign (v := .int .i64 ((i : Int) + 1)) rfl) rfl rfl rfl ?_
        refine o_nil ?_
        refine q_round hK1 (i + 1) ?_ ?_ ?_ ?_
        · clear hK1
          exact Greedy.MInv.onward' hO hI (by assumption)
        · (try dsimp only); omega
        · exact Sub.cons rfl (Sub.cons rfl (Sub.nil _))
        · exact fun _ hw => HeapIs.pick hw [0] (by decide) rfl
  · simp only [decide_eq_false_iff_not, Int.not_lt] at hc2
    refine c_exit ?_
    refine q_then_exit (q_then_exit (q_block_exit (q_then ?_)))
    refine c_seq ?_
    refine c_region ?_
    refine o_pure (p_assign (v := .int .i64 (-1)) rfl) rfl rfl rfl ?_
    refine o_nil ?_
    refine q_then ?_
    refine c_ret ?_
    have hr0 : ((-1) : Int) = (Greedy.least l : Int) := by
      first | exact Greedy.MInv.found' hO hI (by omega) (by assumption) | exact (hI.done (by omega) hy1).elim
    refine q_end0 (v := .int .i64 (-1)) (rt1 rfl (r_tmp rfl)) (i := 0) rfl ?_
    exact (by have hcc := congrArg (fun (y0 : Int) => (.int .i64 y0 : Value)) hr0; exact hcc)

set_option maxHeartbeats 8000000 in
set_option maxRecDepth 100000 in
theorem hoardFresh_ok (floor : Int) (t : DItem) (hy1 : (0 ≤ floor ∧ floor ≤ 1125899906842624) ∧ Greedy.right t = true) : Fn0 Try.prog 78 [.int .i64 floor, .agg #[.int .i64 t.key, .int .i64 t.size, .int .i64 t.cost, .int .i64 t.worth]] (fun _ => True) (.int .i64 (Greedy.fresh floor t)) := by
  refine fn0 (nt := 24) (F0 := [(0, .int .i64 floor), (1, .agg #[.int .i64 t.key, .int .i64 t.size, .int .i64 t.cost, .int .i64 t.worth])]) Try.func78 rfl Try.ntmps78 rfl rfl (fun w0 hpre => ?_)
  have hr := Greedy.right_ok hy1.2
  have hrb := Greedy.ref_bd hy1.2
  obtain ⟨hf, hrt⟩ := hy1
  refine c_seq ?_
  refine c_region ?_
  refine o_box (v := .agg #[.int .i64 t.key, .int .i64 t.size, .int .i64 t.cost, .int .i64 t.worth]) rfl rfl (fun B1 => ?_)
  refine o_pure (p_assign (v := .int .i64 0) rfl) rfl rfl rfl ?_
  refine o_nil ?_
  refine q_then ?_
  refine c_seq ?_
  refine c_region ?_
  refine o_pure (p_fieldAddr (B := B1) (j := 0) (j' := 2) rfl fo41_2 rfl) rfl rfl rfl ?_
  refine o_pure (p_load (i := 0) (v := .int .i64 t.cost) rfl rfl sh3 rfl) rfl rfl rfl ?_
  refine o_pure (p_mulb (p := 1024) (q := t.cost) rfl rfl (by omega)) rfl rfl rfl ?_
  refine o_pure (p_assign (v := .int .i64 (1024 * t.cost)) rfl) rfl rfl rfl ?_
  refine o_nil ?_
  refine q_then ?_
  refine c_seq ?_
  refine c_draw hmix (by kernel_rfl) ?_
  refine w_pure (p_move (v := .int .i64 floor) rfl) rfl rfl rfl ?_
  refine w_pure (p_move (v := .int .i64 (1024 * t.cost)) rfl) rfl rfl rfl ?_
  refine w_pure (p_move (v := .int .i64 (1024 * t.cost)) rfl) rfl rfl rfl ?_
  refine w_pure (p_fieldAddr (B := B1) (j := 0) (j' := 1) rfl fo41_1 rfl) rfl rfl rfl ?_
  refine w_pure (p_load (i := 0) (v := .int .i64 t.size) rfl rfl sh3 rfl) rfl rfl rfl ?_
  refine w_pure (p_rem (p := (1024 * t.cost)) (q := t.size) rfl rfl (by omega)) rfl rfl rfl ?_
  refine w_pure (p_subb (p := (1024 * t.cost)) (q := ((1024 * t.cost).tmod t.size)) rfl rfl (by omega)) rfl rfl rfl ?_
  refine w_pure (p_fieldAddr (B := B1) (j := 0) (j' := 1) rfl fo41_1 rfl) rfl rfl rfl ?_
  refine w_pure (p_load (i := 0) (v := .int .i64 t.size) rfl rfl sh3 rfl) rfl rfl rfl ?_
  refine w_pure (p_quob (p := ((1024 * t.cost) - ((1024 * t.cost).tmod t.size))) (q := t.size) rfl rfl (by omega) (by omega)) rfl rfl rfl ?_
  refine w_pure (p_addb (p := floor) (q := (((1024 * t.cost) - ((1024 * t.cost).tmod t.size)).tdiv t.size)) rfl rfl (by omega)) rfl rfl rfl ?_
  refine w_pure (p_assign (v := .int .i64 (floor + (((1024 * t.cost) - ((1024 * t.cost).tmod t.size)).tdiv t.size))) rfl) rfl rfl rfl ?_
  refine w_nil ?_
  refine q_then ?_
  refine c_seq ?_
  refine c_seq ?_
  refine c_region ?_
  refine o_pure (p_move (v := .int .i64 (floor + (((1024 * t.cost) - ((1024 * t.cost).tmod t.size)).tdiv t.size))) rfl) rfl rfl rfl ?_
  refine o_pure (p_gt (p := (floor + (((1024 * t.cost) - ((1024 * t.cost).tmod t.size)).tdiv t.size))) (q := 1125899906842624) rfl rfl) rfl rfl rfl ?_
  refine o_nil ?_
  refine q_then ?_
  refine c_cond (b := decide (1125899906842624 < (floor + (((1024 * t.cost) - ((1024 * t.cost).tmod t.size)).tdiv t.size)))) rfl (fun hc2 => ?_) (fun hc2 => ?_)
  · simp only [decide_eq_true_eq] at hc2
    refine c_region ?_
    refine o_pure (p_assign (v := .int .i64 1125899906842624) rfl) rfl rfl rfl ?_
    refine o_nil ?_
    refine q_then ?_
    refine c_seq ?_
    refine c_region ?_
    refine o_pure (p_move (v := .int .i64 1125899906842624) rfl) rfl rfl rfl ?_
    refine o_pure (p_assign (v := .int .i64 1125899906842624) rfl) rfl rfl rfl ?_
    refine o_nil ?_
    refine q_then ?_
    refine c_ret ?_
    have hr0 : (1125899906842624 : Int) = (Greedy.fresh floor t) := by
      rw [← Greedy.fresh_eq (floor := floor) hrt]
      first | rw [if_pos (by assumption)] | rw [if_neg (by omega)]
    refine q_end0 (v := .int .i64 1125899906842624) (rt1 rfl (r_tmp rfl)) (i := 1) rfl ?_
    exact (by have hcc := congrArg (fun (y0 : Int) => (.int .i64 y0 : Value)) hr0; exact hcc)
  · simp only [decide_eq_false_iff_not, Int.not_lt] at hc2
    refine c_skip ?_
    refine q_then ?_
    refine c_seq ?_
    refine c_region ?_
    refine o_pure (p_move (v := .int .i64 (floor + (((1024 * t.cost) - ((1024 * t.cost).tmod t.size)).tdiv t.size))) rfl) rfl rfl rfl ?_
    refine o_pure (p_assign (v := .int .i64 (floor + (((1024 * t.cost) - ((1024 * t.cost).tmod t.size)).tdiv t.size))) rfl) rfl rfl rfl ?_
    refine o_nil ?_
    refine q_then ?_
    refine c_ret ?_
    have hr0 : ((floor + (((1024 * t.cost) - ((1024 * t.cost).tmod t.size)).tdiv t.size)) : Int) = (Greedy.fresh floor t) := by
      rw [← Greedy.fresh_eq (floor := floor) hrt]
      first | rw [if_pos (by assumption)] | rw [if_neg (by omega)]
    refine q_end0 (v := .int .i64 (floor + (((1024 * t.cost) - ((1024 * t.cost).tmod t.size)).tdiv t.size))) (rt1 rfl (r_tmp rfl)) (i := 1) rfl ?_
    exact (by have hcc := congrArg (fun (y0 : Int) => (.int .i64 y0 : Value)) hr0; exact hcc)

set_option maxHeartbeats 8000000 in
set_option maxRecDepth 100000 in
theorem sameHoard_ok (a : DGreedy) (aa_0 : Option Addr) (ca_0 : Nat) (b : DGreedy) (ab_0 : Option Addr) (cb_0 : Nat) : Fn0 Try.prog 34 [.agg #[.int .i64 a.room, .int .i64 a.floor, .slice aa_0 a.things.length ca_0], .agg #[.int .i64 b.room, .int .i64 b.floor, .slice ab_0 b.things.length cb_0]] (fun w => Rd tItem w aa_0 ca_0 a.things ∧ Rd tItem w ab_0 cb_0 b.things) (.bool (decide (a = b))) := by
  refine fn0 (nt := 45) (F0 := [(0, .agg #[.int .i64 a.room, .int .i64 a.floor, .slice aa_0 a.things.length ca_0]), (1, .agg #[.int .i64 b.room, .int .i64 b.floor, .slice ab_0 b.things.length cb_0])]) Try.func34 rfl Try.ntmps34 rfl rfl (fun w0 hpre => ?_)
  obtain ⟨ha_0, hb_0⟩ := hpre
  have hlha_0 := ha_0.2.1
  have hlhb_0 := hb_0.2.1
  refine c_seq ?_
  refine c_region ?_
  refine o_box (v := .agg #[.int .i64 a.room, .int .i64 a.floor, .slice aa_0 a.things.length ca_0]) rfl rfl (fun B1 => ?_)
  refine o_box (v := .agg #[.int .i64 b.room, .int .i64 b.floor, .slice ab_0 b.things.length cb_0]) rfl rfl (fun B2 => ?_)
  refine o_pure (p_assign (v := .bool false) rfl) rfl rfl rfl ?_
  refine o_nil ?_
  refine q_then ?_
  refine c_seq ?_
  refine c_seq ?_
  refine c_region ?_
  refine o_pure (p_fieldAddr (B := B1) (j := 0) (j' := 0) rfl fo39_0 rfl) rfl rfl rfl ?_
  refine o_pure (p_load (i := 1) (v := .int .i64 a.room) rfl rfl sh3 rfl) rfl rfl rfl ?_
  refine o_pure (p_fieldAddr (B := B2) (j := 0) (j' := 0) rfl fo39_0 rfl) rfl rfl rfl ?_
  refine o_pure (p_load (i := 0) (v := .int .i64 b.room) rfl rfl sh3 rfl) rfl rfl rfl ?_
  refine o_pure (p_ne (p := a.room) (q := b.room) rfl rfl) rfl rfl rfl ?_
  refine o_pure (p_move (v := .bool (a.room != b.room)) rfl) rfl rfl rfl ?_
  refine o_or (p := 17) 6 (a.floor != b.floor) ?_ ?_ ?_
  · intro hb3 hk
    simp only [bne_eq_false_iff_eq] at hb3
    refine o_unguard 11 rfl rfl ?_
    refine o_pure (p_fieldAddr (B := B1) (j := 0) (j' := 1) rfl fo39_1 rfl) rfl rfl rfl ?_
    refine o_unguard 11 rfl rfl ?_
    refine o_pure (p_load (i := 1) (v := .int .i64 a.floor) rfl rfl sh3 rfl) rfl rfl rfl ?_
    refine o_unguard 11 rfl rfl ?_
    refine o_pure (p_fieldAddr (B := B2) (j := 0) (j' := 1) rfl fo39_1 rfl) rfl rfl rfl ?_
    refine o_unguard 11 rfl rfl ?_
    refine o_pure (p_load (i := 0) (v := .int .i64 b.floor) rfl rfl sh3 rfl) rfl rfl rfl ?_
    refine o_unguard 11 rfl rfl ?_
    refine o_pure (p_ne (p := a.floor) (q := b.floor) rfl rfl) rfl rfl rfl ?_
    refine o_pure (p_pick_false (v := .bool (a.floor != b.floor)) rfl rfl) rfl rfl rfl ?_
    exact o_sub (Sub.cons rfl (Sub.skip rfl (Sub.skip rfl (Sub.skip rfl (Sub.skip rfl (Sub.skip rfl (Sub.skip rfl (Sub.skip rfl (Sub.refl _))))))))) hk
  · intro hb3 hk
    refine o_guard_no rfl 11 rfl rfl rfl rfl rfl ?_
    refine o_guard_no rfl 11 rfl rfl rfl rfl rfl ?_
    refine o_guard_no rfl 11 rfl rfl rfl rfl rfl ?_
    refine o_guard_no rfl 11 rfl rfl rfl rfl rfl ?_
    refine o_guard_no rfl 11 rfl rfl rfl rfl rfl ?_
    refine o_pure (p_pick_true (u := .bool true) rfl rfl) rfl rfl rfl ?_
    exact o_sub (Sub.cons rfl (Sub.skip rfl (Sub.skip rfl (Sub.skip rfl (Sub.skip rfl (Sub.skip rfl (Sub.skip rfl (Sub.skip rfl (Sub.refl _))))))))) hk
  refine o_pure (p_move (v := .bool ((a.room != b.room) || (a.floor != b.floor))) rfl) rfl rfl rfl ?_
  refine o_or (p := 26) 8 ((a.things.length : Int) != (b.things.length : Int)) ?_ ?_ ?_
  · intro hb4 hk
    simp only [Bool.or_eq_false_iff, bne_eq_false_iff_eq] at hb4
    refine o_unguard 18 rfl rfl ?_
    refine o_pure (p_fieldAddr (B := B1) (j := 0) (j' := 2) rfl fo39_2 rfl) rfl rfl rfl ?_
    refine o_unguard 18 rfl rfl ?_
    refine o_pure (p_load (i := 1) (v := .slice aa_0 a.things.length ca_0) rfl rfl sh37 rfl) rfl rfl rfl ?_
    refine o_unguard 18 rfl rfl ?_
    refine o_pure (p_len_slice (len := a.things.length) rfl rfl Try.underlying37) rfl rfl rfl ?_
    refine o_unguard 18 rfl rfl ?_
    refine o_pure (p_fieldAddr (B := B2) (j := 0) (j' := 2) rfl fo39_2 rfl) rfl rfl rfl ?_
    refine o_unguard 18 rfl rfl ?_
    refine o_pure (p_load (i := 0) (v := .slice ab_0 b.things.length cb_0) rfl rfl sh37 rfl) rfl rfl rfl ?_
    refine o_unguard 18 rfl rfl ?_
    refine o_pure (p_len_slice (len := b.things.length) rfl rfl Try.underlying37) rfl rfl rfl ?_
    refine o_unguard 18 rfl rfl ?_
    refine o_pure (p_ne (p := (a.things.length : Int)) (q := (b.things.length : Int)) rfl rfl) rfl rfl rfl ?_
    refine o_pure (p_pick_false (v := .bool ((a.things.length : Int) != (b.things.length : Int))) rfl rfl) rfl rfl rfl ?_
    exact o_sub (Sub.cons rfl (Sub.skip rfl (Sub.skip rfl (Sub.skip rfl (Sub.skip rfl (Sub.skip rfl (Sub.skip rfl (Sub.skip rfl (Sub.skip rfl (Sub.skip rfl (Sub.refl _))))))))))) hk
  · intro hb4 hk
    refine o_guard_no rfl 18 rfl rfl rfl rfl rfl ?_
    refine o_guard_no rfl 18 rfl rfl rfl rfl rfl ?_
    refine o_guard_no rfl 18 rfl rfl rfl rfl rfl ?_
    refine o_guard_no rfl 18 rfl rfl rfl rfl rfl ?_
    refine o_guard_no rfl 18 rfl rfl rfl rfl rfl ?_
    refine o_guard_no rfl 18 rfl rfl rfl rfl rfl ?_
    refine o_guard_no rfl 18 rfl rfl rfl rfl rfl ?_
    refine o_pure (p_pick_true (u := .bool true) rfl rfl) rfl rfl rfl ?_
    exact o_sub (Sub.cons rfl (Sub.skip rfl (Sub.skip rfl (Sub.skip rfl (Sub.skip rfl (Sub.skip rfl (Sub.skip rfl (Sub.skip rfl (Sub.skip rfl (Sub.skip rfl (Sub.refl _))))))))))) hk
  refine o_nil ?_
  refine q_then ?_
  refine c_cond (b := (((a.room != b.room) || (a.floor != b.floor)) || ((a.things.length : Int) != (b.things.length : Int)))) rfl (fun hc5 => ?_) (fun hc5 => ?_)
  · simp only [Bool.or_eq_true, bne_iff_ne, ne_eq] at hc5
    refine c_seq ?_
    refine c_region ?_
    refine o_pure (p_assign (v := .bool false) rfl) rfl rfl rfl ?_
    refine o_nil ?_
    refine q_then ?_
    refine c_ret ?_
    refine q_then_ret ?_
    have hr0 : (false : Bool) = (decide (a = b)) := by
      first | exact Greedy.same_no (by assumption) | exact Greedy.same_no2 (by assumption) | exact Greedy.same_yes (by assumption) (fun j h1 h2 => hI2 j h1 h2 (by omega))
    refine q_end0 (v := .bool false) (rt1 rfl (r_tmp rfl)) (i := 2) rfl ?_
    exact (by have hcc := congrArg (fun (y0 : Bool) => (.bool y0 : Value)) hr0; exact hcc)
  · simp only [Bool.or_eq_false_iff, bne_eq_false_iff_eq] at hc5
    refine c_skip ?_
    refine q_then ?_
    refine c_seq ?_
    refine c_seq ?_
    refine c_region ?_
    refine o_pure (p_assign (v := .int .i64 0) rfl) rfl rfl rfl ?_
    refine o_nil ?_
    refine q_then ?_
    refine c_block ?_
    refine c_loop (St := Nat)
      (fun i => [(2, .pointer (some ⟨B1, 0, none⟩)), (3, .pointer (some ⟨B2, 0, none⟩)), (5, .int .i64 (i : Int))])
      (fun i => [box B2 [.int .i64 b.room, .int .i64 b.floor, .slice ab_0 b.things.length cb_0] 39, box B1 [.int .i64 a.room, .int .i64 a.floor, .slice aa_0 a.things.length ca_0] 39, base w0])
      (fun i => i ≤ a.things.length ∧ ∀ j (h1 : j < a.things.length) (h2 : j < b.things.length), j < i → a.things[j] = b.things[j])
      (fun i => a.things.length - i)
      0 ?_ (Sub.cons rfl (Sub.cons rfl (Sub.cons rfl (Sub.nil _)))) (fun _ hw => hw) ?_
    · exact ⟨Nat.zero_le _, fun j _ _ h => absurd h (by omega)⟩
    rintro i hI K hK6
    obtain ⟨hI1, hI2⟩ := hI
    show SC _ _ Try.prog 45 w0 _ _ [(2, .pointer (some ⟨B1, 0, none⟩)), (3, .pointer (some ⟨B2, 0, none⟩)), (5, .int .i64 (i : Int))] [box B2 [.int .i64 b.room, .int .i64 b.floor, .slice ab_0 b.things.length cb_0] 39, box B1 [.int .i64 a.room, .int .i64 a.floor, .slice aa_0 a.things.length ca_0] 39, base w0]
    refine c_seq ?_
    refine c_seq ?_
    refine c_region ?_
    refine o_pure (p_move (v := .int .i64 (i : Int)) rfl) rfl rfl rfl ?_
    refine o_pure (p_fieldAddr (B := B1) (j := 0) (j' := 2) rfl fo39_2 rfl) rfl rfl rfl ?_
    refine o_pure (p_load (i := 1) (v := .slice aa_0 a.things.length ca_0) rfl rfl sh37 rfl) rfl rfl rfl ?_
    refine o_pure (p_len_slice (len := a.things.length) rfl rfl Try.underlying37) rfl rfl rfl ?_
    refine o_pure (p_lt (p := (i : Int)) (q := (a.things.length : Int)) rfl rfl) rfl rfl rfl ?_
    refine o_nil ?_
    refine q_then ?_
    refine c_cond (b := decide ((i : Int) < (a.things.length : Int))) rfl (fun hc7 => ?_) (fun hc7 => ?_)
    · simp only [decide_eq_true_eq] at hc7
      refine c_skip ?_
      refine q_then ?_
      refine c_seq ?_
      refine c_block ?_
      refine c_seq ?_
      refine c_draw hmix (by kernel_rfl) ?_
      refine w_pure (p_fieldAddr (B := B1) (j := 0) (j' := 2) rfl fo39_2 rfl) rfl rfl rfl ?_
      refine w_pure (p_load (i := 1) (v := .slice aa_0 a.things.length ca_0) rfl rfl sh37 rfl) rfl rfl rfl ?_
      refine w_pure (p_move (v := .int .i64 (i : Int)) rfl) rfl rfl rfl ?_
      refine w_pure (p_indexAddr (L := a.things) (T := tItem) (i := (i : Int)) rfl rfl (rd_base (i := 2) rfl ha_0) Try.underlying37 sz41 (by omega) (by omega)) rfl rfl rfl ?_
      refine w_pure (p_loadEn (i := i) (T := tItem) (L := a.things) (vs := [.int .i64 ((a.things[i]).key), .int .i64 ((a.things[i]).size), .int .i64 ((a.things[i]).cost), .int .i64 ((a.things[i]).worth)]) rfl (rd_base (i := 2) rfl ha_0) (by first | assumption | omega) sh41 rfl) rfl rfl rfl ?_
      refine w_pure (p_fieldAddr (B := B2) (j := 0) (j' := 2) rfl fo39_2 rfl) rfl rfl rfl ?_
      refine w_pure (p_load (i := 0) (v := .slice ab_0 b.things.length cb_0) rfl rfl sh37 rfl) rfl rfl rfl ?_
      refine w_pure (p_move (v := .int .i64 (i : Int)) rfl) rfl rfl rfl ?_
      refine w_pure (p_indexAddr (L := b.things) (T := tItem) (i := (i : Int)) rfl rfl (rd_base (i := 2) rfl hb_0) Try.underlying37 sz41 (by omega) (by omega)) rfl rfl rfl ?_
      refine w_pure (p_loadEn (i := i) (T := tItem) (L := b.things) (vs := [.int .i64 ((b.things[i]).key), .int .i64 ((b.things[i]).size), .int .i64 ((b.things[i]).cost), .int .i64 ((b.things[i]).worth)]) rfl (rd_base (i := 2) rfl hb_0) (by first | assumption | omega) sh41 rfl) rfl rfl rfl ?_
      refine w_pure (p_neStruct (xs := [.int .i64 ((a.things[i]).key), .int .i64 ((a.things[i]).size), .int .i64 ((a.things[i]).cost), .int .i64 ((a.things[i]).worth)]) (ys := [.int .i64 ((b.things[i]).key), .int .i64 ((b.things[i]).size), .int .i64 ((b.things[i]).cost), .int .i64 ((b.things[i]).worth)]) (r := (((a.things[i]).key == (b.things[i]).key) && (((a.things[i]).size == (b.things[i]).size) && (((a.things[i]).cost == (b.things[i]).cost) && ((a.things[i]).worth == (b.things[i]).worth))))) rfl rfl eqS41) rfl rfl rfl ?_
      refine w_nil ?_
      refine q_then ?_
      refine c_cond (b := (!(((a.things[i]).key == (b.things[i]).key) && (((a.things[i]).size == (b.things[i]).size) && (((a.things[i]).cost == (b.things[i]).cost) && ((a.things[i]).worth == (b.things[i]).worth)))))) rfl (fun hc8 => ?_) (fun hc8 => ?_)
      · simp only [Bool.not_eq_true', Bool.and_eq_false_iff, beq_eq_false_iff_ne, ne_eq] at hc8
        refine c_seq ?_
        refine c_region ?_
        refine o_pure (p_assign (v := .bool false) rfl) rfl rfl rfl ?_
        refine o_nil ?_
        refine q_then ?_
        refine c_ret ?_
        refine q_block_ret (q_then_ret (q_then_ret (q_block_ret (q_then_ret ?_))))
        have hr0 : (false : Bool) = (decide (a = b)) := by
          first | exact Greedy.same_no (by assumption) | exact Greedy.same_no2 (by assumption) | exact Greedy.same_yes (by assumption) (fun j h1 h2 => hI2 j h1 h2 (by omega))
        refine q_end0 (v := .bool false) (rt1 rfl (r_tmp rfl)) (i := 2) rfl ?_
        exact (by have hcc := congrArg (fun (y0 : Bool) => (.bool y0 : Value)) hr0; exact hcc)
      · simp only [Bool.not_eq_false', Bool.and_eq_true, beq_iff_eq] at hc8
        refine c_skip ?_
        refine q_block_normal (q_then ?_)
        refine c_region ?_
        refine o_pure (p_move (v := .int .i64 (i : Int)) rfl) rfl rfl rfl ?_
        refine o_pure (p_addb (p := (i : Int)) (q := 1) rfl rfl (by omega)) rfl rfl rfl ?_
        refine o_pure (p_assign (v := .int .i64 ((i : Int) + 1)) rfl) rfl rfl rfl ?_
        refine o_nil ?_
        refine q_round hK6 (i + 1) ?_ ?_ ?_ ?_
        · clear hK6
          refine ⟨by omega, fun j h1 h2 h3 => ?_⟩
          by_cases e : j = i
          · subst e; apply Greedy.item_eq <;> simp_all
          · exact hI2 j h1 h2 (by omega)
        · (try dsimp only); omega
        · exact Sub.cons rfl (Sub.cons rfl (Sub.cons rfl (Sub.nil _)))
        · exact fun _ hw => HeapIs.pick hw [0, 1, 2] (by decide) rfl
    · simp only [decide_eq_false_iff_not, Int.not_lt] at hc7
      refine c_exit ?_
      refine q_then_exit (q_then_exit (q_block_exit (q_then ?_)))
      refine c_seq ?_
      refine c_region ?_
      refine o_pure (p_assign (v := .bool true) rfl) rfl rfl rfl ?_
      refine o_nil ?_
      refine q_then ?_
      refine c_ret ?_
      have hr0 : (true : Bool) = (decide (a = b)) := by
        first | exact Greedy.same_no (by assumption) | exact Greedy.same_no2 (by assumption) | exact Greedy.same_yes (by assumption) (fun j h1 h2 => hI2 j h1 h2 (by omega))
      refine q_end0 (v := .bool true) (rt1 rfl (r_tmp rfl)) (i := 2) rfl ?_
      exact (by have hcc := congrArg (fun (y0 : Bool) => (.bool y0 : Value)) hr0; exact hcc)
end Go.Proofs.Ythbfdhphnofacab
