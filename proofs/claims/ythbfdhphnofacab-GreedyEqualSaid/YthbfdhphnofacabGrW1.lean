/- The walks, printed by a program from the translation and a specification. -/
import Derived.Test.YthbfdhphnofacabGrF
import Derived.Test.YthbfdhphnofacabGrLaw3
namespace Go.Proofs.Ythbfdhphnofacab
open Go.Sx Go.RowKit
set_option maxHeartbeats 8000000 in
set_option maxRecDepth 100000 in
theorem between_ok (n : Int) (a : Int) (b : Int) : Fn0 Try.prog 66 [.int .i64 n, .int .i64 a, .int .i64 b] (fun _ => True) (.bool (Ref.between n a b)) := by
  refine fn0 (nt := 15) (F0 := [(0, .int .i64 n), (1, .int .i64 a), (2, .int .i64 b)]) Try.func66 rfl Try.ntmps66 rfl rfl (fun w0 hpre => ?_)
  refine c_seq ?_
  refine c_region ?_
  refine o_pure (p_assign (v := .bool false) rfl) rfl rfl rfl ?_
  refine o_nil ?_
  refine q_then ?_
  refine c_seq ?_
  refine c_region ?_
  refine o_pure (p_move (v := .int .i64 n) rfl) rfl rfl rfl ?_
  refine o_pure (p_move (v := .int .i64 a) rfl) rfl rfl rfl ?_
  refine o_pure (p_ge (p := n) (q := a) rfl rfl) rfl rfl rfl ?_
  refine o_pure (p_move (v := .bool (decide (a ≤ n))) rfl) rfl rfl rfl ?_
  refine o_and (p := 14) 4 (decide (n ≤ b)) ?_ ?_ ?_
  · intro hb1 hk
    simp only [decide_eq_true_eq] at hb1
    refine o_unguard 10 rfl rfl ?_
    refine o_pure (p_move (v := .int .i64 n) rfl) rfl rfl rfl ?_
    refine o_unguard 10 rfl rfl ?_
    refine o_pure (p_move (v := .int .i64 b) rfl) rfl rfl rfl ?_
    refine o_unguard 10 rfl rfl ?_
    refine o_pure (p_le (p := n) (q := b) rfl rfl) rfl rfl rfl ?_
    refine o_pure (p_pick_true (u := .bool (decide (n ≤ b))) rfl rfl) rfl rfl rfl ?_
    exact o_sub (Sub.cons rfl (Sub.skip rfl (Sub.skip rfl (Sub.skip rfl (Sub.skip rfl (Sub.skip rfl (Sub.refl _))))))) hk
  · intro hb1 hk
    refine o_guard_no rfl 10 rfl rfl rfl rfl rfl ?_
    refine o_guard_no rfl 10 rfl rfl rfl rfl rfl ?_
    refine o_guard_no rfl 10 rfl rfl rfl rfl rfl ?_
    refine o_pure (p_pick_false (v := .bool false) rfl rfl) rfl rfl rfl ?_
    exact o_sub (Sub.cons rfl (Sub.skip rfl (Sub.skip rfl (Sub.skip rfl (Sub.skip rfl (Sub.skip rfl (Sub.refl _))))))) hk
  refine o_pure (p_assign (v := .bool (decide (a ≤ n) && decide (n ≤ b))) rfl) rfl rfl rfl ?_
  refine o_nil ?_
  refine q_then ?_
  refine c_ret ?_
  have hr0 : ((decide (a ≤ n) && decide (n ≤ b)) : Bool) = (Ref.between n a b) := by
    rfl
  refine q_end0 (v := .bool (decide (a ≤ n) && decide (n ≤ b))) (rt1 rfl (r_tmp rfl)) (i := 0) rfl ?_
  exact (by have hcc := congrArg (fun (y0 : Bool) => (.bool y0 : Value)) hr0; exact hcc)

set_option maxHeartbeats 8000000 in
set_option maxRecDepth 100000 in
theorem hasInt_ok (l : List Int) (al : Option Addr) (cl : Nat) (n : Int) : Fn0 Try.prog 36 [.slice al l.length cl, .int .i64 n] (fun w => Rd tInt w al cl l) (.bool (Ref.hasInt l n)) := by
  refine fn0 (nt := 18) (F0 := [(0, .slice al l.length cl), (1, .int .i64 n)]) Try.func36 rfl Try.ntmps36 rfl rfl (fun w0 hpre => ?_)
  have hl := hpre
  have hlhl := hl.2.1
  refine c_seq ?_
  refine c_region ?_
  refine o_pure (p_assign (v := .bool false) rfl) rfl rfl rfl ?_
  refine o_nil ?_
  refine q_then ?_
  refine c_seq ?_
  refine c_seq ?_
  refine c_region ?_
  refine o_pure (p_assign (v := .int .i64 0) rfl) rfl rfl rfl ?_
  refine o_nil ?_
  refine q_then ?_
  refine c_block ?_
  refine c_loop (St := Nat)
    (fun i => [(0, .slice al l.length cl), (1, .int .i64 n), (5, .int .i64 (i : Int))])
    (fun i => [base w0])
    (fun i => i ≤ l.length ∧ ∀ j (h1 : j < l.length), j < i → l[j] ≠ n)
    (fun i => l.length - i)
    0 ?_ (Sub.cons rfl (Sub.cons rfl (Sub.cons rfl (Sub.nil _)))) (fun _ hw => hw) ?_
  · exact ⟨Nat.zero_le _, fun j _ h => absurd h (by omega)⟩
  rintro i hI K hK1
  obtain ⟨hi, hinv⟩ := hI
  show SC _ _ Try.prog 18 w0 _ _ [(0, .slice al l.length cl), (1, .int .i64 n), (5, .int .i64 (i : Int))] [base w0]
  refine c_seq ?_
  refine c_seq ?_
  refine c_region ?_
  refine o_pure (p_move (v := .int .i64 (i : Int)) rfl) rfl rfl rfl ?_
  refine o_pure (p_move (v := .slice al l.length cl) rfl) rfl rfl rfl ?_
  refine o_pure (p_len_slice (len := l.length) rfl rfl Try.underlying22) rfl rfl rfl ?_
  refine o_pure (p_lt (p := (i : Int)) (q := (l.length : Int)) rfl rfl) rfl rfl rfl ?_
  refine o_nil ?_
  refine q_then ?_
  refine c_cond (b := decide ((i : Int) < (l.length : Int))) rfl (fun hc2 => ?_) (fun hc2 => ?_)
  · simp only [decide_eq_true_eq] at hc2
    refine c_skip ?_
    refine q_then ?_
    refine c_seq ?_
    refine c_block ?_
    refine c_seq ?_
    refine c_region ?_
    refine o_pure (p_move (v := .slice al l.length cl) rfl) rfl rfl rfl ?_
    refine o_pure (p_move (v := .int .i64 (i : Int)) rfl) rfl rfl rfl ?_
    refine o_pure (p_indexAddr (L := l) (T := tInt) (i := (i : Int)) rfl rfl (rd_base (i := 0) rfl hl) Try.underlying22 sz3 (by omega) (by omega)) rfl rfl rfl ?_
    refine o_pure (p_loadE1 (i := i) (T := tInt) (L := l) (v := .int .i64 (l[i])) rfl (rd_base (i := 0) rfl hl) (by first | assumption | omega) sh3 rfl) rfl rfl rfl ?_
    refine o_pure (p_move (v := .int .i64 n) rfl) rfl rfl rfl ?_
    refine o_pure (p_eq (p := l[i]) (q := n) rfl rfl) rfl rfl rfl ?_
    refine o_nil ?_
    refine q_then ?_
    refine c_cond (b := (l[i] == n)) rfl (fun hc3 => ?_) (fun hc3 => ?_)
    · simp only [beq_iff_eq] at hc3
      refine c_seq ?_
      refine c_region ?_
      refine o_pure (p_assign (v := .bool true) rfl) rfl rfl rfl ?_
      refine o_nil ?_
      refine q_then ?_
      refine c_ret ?_
      refine q_block_ret (q_then_ret (q_then_ret (q_block_ret (q_then_ret ?_))))
      have hr0 : (true : Bool) = (Ref.hasInt l n) := by
        simp only [Ref.hasInt]
        grind [List.mem_iff_getElem]
      refine q_end0 (v := .bool true) (rt1 rfl (r_tmp rfl)) (i := 0) rfl ?_
      exact (by have hcc := congrArg (fun (y0 : Bool) => (.bool y0 : Value)) hr0; exact hcc)
    · simp only [beq_eq_false_iff_ne, ne_eq] at hc3
      refine c_skip ?_
      refine q_block_normal (q_then ?_)
      refine c_region ?_
      refine o_pure (p_move (v := .int .i64 (i : Int)) rfl) rfl rfl rfl ?_
      refine o_pure (p_addb (p := (i : Int)) (q := 1) rfl rfl (by omega)) rfl rfl rfl ?_
      refine o_pure (p_assign (v := .int .i64 ((i : Int) + 1)) rfl) rfl rfl rfl ?_
      refine o_nil ?_
      refine q_round hK1 (i + 1) ?_ ?_ ?_ ?_
      · clear hK1
        refine ⟨by omega, ?_⟩
        grind
      · (try dsimp only); omega
      · exact Sub.cons rfl (Sub.cons rfl (Sub.cons rfl (Sub.nil _)))
      · exact fun _ hw => HeapIs.pick hw [0] (by decide) rfl
  · simp only [decide_eq_false_iff_not, Int.not_lt] at hc2
    refine c_exit ?_
    refine q_then_exit (q_then_exit (q_block_exit (q_then ?_)))
    refine c_seq ?_
    refine c_region ?_
    refine o_pure (p_assign (v := .bool false) rfl) rfl rfl rfl ?_
    refine o_nil ?_
    refine q_then ?_
    refine c_ret ?_
    have hr0 : (false : Bool) = (Ref.hasInt l n) := by
      simp only [Ref.hasInt]
      grind [List.mem_iff_getElem]
    refine q_end0 (v := .bool false) (rt1 rfl (r_tmp rfl)) (i := 0) rfl ?_
    exact (by have hcc := congrArg (fun (y0 : Bool) => (.bool y0 : Value)) hr0; exact hcc)

set_option maxHeartbeats 8000000 in
set_option maxRecDepth 100000 in
theorem sameInts_ok (a : List Int) (aa : Option Addr) (ca : Nat) (b : List Int) (ab : Option Addr) (cb : Nat) : Fn0 Try.prog 22 [.slice aa a.length ca, .slice ab b.length cb] (fun w => Rd tInt w aa ca a ∧ Rd tInt w ab cb b) (.bool (Ref.sameInts a b)) := by
  refine fn0 (nt := 26) (F0 := [(0, .slice aa a.length ca), (1, .slice ab b.length cb)]) Try.func22 rfl Try.ntmps22 rfl rfl (fun w0 hpre => ?_)
  obtain ⟨ha, hb⟩ := hpre
  have hlha := ha.2.1
  have hlhb := hb.2.1
  refine c_seq ?_
  refine c_region ?_
  refine o_pure (p_assign (v := .bool false) rfl) rfl rfl rfl ?_
  refine o_nil ?_
  refine q_then ?_
  refine c_seq ?_
  refine c_seq ?_
  refine c_region ?_
  refine o_pure (p_move (v := .slice aa a.length ca) rfl) rfl rfl rfl ?_
  refine o_pure (p_len_slice (len := a.length) rfl rfl Try.underlying22) rfl rfl rfl ?_
  refine o_pure (p_move (v := .slice ab b.length cb) rfl) rfl rfl rfl ?_
  refine o_pure (p_len_slice (len := b.length) rfl rfl Try.underlying22) rfl rfl rfl ?_
  refine o_pure (p_ne (p := (a.length : Int)) (q := (b.length : Int)) rfl rfl) rfl rfl rfl ?_
  refine o_nil ?_
  refine q_then ?_
  refine c_cond (b := ((a.length : Int) != (b.length : Int))) rfl (fun hc1 => ?_) (fun hc1 => ?_)
  · simp only [bne_iff_ne, ne_eq] at hc1
    refine c_seq ?_
    refine c_region ?_
    refine o_pure (p_assign (v := .bool false) rfl) rfl rfl rfl ?_
    refine o_nil ?_
    refine q_then ?_
    refine c_ret ?_
    refine q_then_ret ?_
    have hr0 : (false : Bool) = (Ref.sameInts a b) := by
      simp only [Ref.sameInts]
      grind [List.ext_getElem]
    refine q_end0 (v := .bool false) (rt1 rfl (r_tmp rfl)) (i := 0) rfl ?_
    exact (by have hcc := congrArg (fun (y0 : Bool) => (.bool y0 : Value)) hr0; exact hcc)
  · simp only [bne_eq_false_iff_eq] at hc1
    refine c_skip ?_
    refine q_then ?_
    refine c_seq ?_
    refine c_seq ?_
    refine c_region ?_
    refine o_pure (p_assign (v := .int .i64 0) rfl) rfl rfl rfl ?_
    refine o_nil ?_
    refine q_then ?_
    refine c_block ?_
    refine c_loop (St := Nat)
      (fun i => [(0, .slice aa a.length ca), (1, .slice ab b.length cb), (5, .int .i64 (i : Int))])
      (fun i => [base w0])
      (fun i => i ≤ a.length ∧ ∀ j (h1 : j < a.length) (h2 : j < b.length), j < i → a[j] = b[j])
      (fun i => a.length - i)
      0 ?_ (Sub.cons rfl (Sub.cons rfl (Sub.cons rfl (Sub.nil _)))) (fun _ hw => hw) ?_
    · exact ⟨Nat.zero_le _, fun j _ _ h => absurd h (by omega)⟩
    rintro i hI K hK2
    obtain ⟨hi, hinv⟩ := hI
    show SC _ _ Try.prog 26 w0 _ _ [(0, .slice aa a.length ca), (1, .slice ab b.length cb), (5, .int .i64 (i : Int))] [base w0]
    refine c_seq ?_
    refine c_seq ?_
    refine c_region ?_
    refine o_pure (p_move (v := .int .i64 (i : Int)) rfl) rfl rfl rfl ?_
    refine o_pure (p_move (v := .slice aa a.length ca) rfl) rfl rfl rfl ?_
    refine o_pure (p_len_slice (len := a.length) rfl rfl Try.underlying22) rfl rfl rfl ?_
    refine o_pure (p_lt (p := (i : Int)) (q := (a.length : Int)) rfl rfl) rfl rfl rfl ?_
    refine o_nil ?_
    refine q_then ?_
    refine c_cond (b := decide ((i : Int) < (a.length : Int))) rfl (fun hc3 => ?_) (fun hc3 => ?_)
    · simp only [decide_eq_true_eq] at hc3
      refine c_skip ?_
      refine q_then ?_
      refine c_seq ?_
      refine c_block ?_
      refine c_seq ?_
      refine c_draw hmix (by kernel_rfl) ?_
      refine w_pure (p_move (v := .slice aa a.length ca) rfl) rfl rfl rfl ?_
      refine w_pure (p_move (v := .int .i64 (i : Int)) rfl) rfl rfl rfl ?_
      refine w_pure (p_indexAddr (L := a) (T := tInt) (i := (i : Int)) rfl rfl (rd_base (i := 0) rfl ha) Try.underlying22 sz3 (by omega) (by omega)) rfl rfl rfl ?_
      refine w_pure (p_loadE1 (i := i) (T := tInt) (L := a) (v := .int .i64 (a[i])) rfl (rd_base (i := 0) rfl ha) (by first | assumption | omega) sh3 rfl) rfl rfl rfl ?_
      refine w_pure (p_move (v := .slice ab b.length cb) rfl) rfl rfl rfl ?_
      refine w_pure (p_move (v := .int .i64 (i : Int)) rfl) rfl rfl rfl ?_
      refine w_pure (p_indexAddr (L := b) (T := tInt) (i := (i : Int)) rfl rfl (rd_base (i := 0) rfl hb) Try.underlying22 sz3 (by omega) (by omega)) rfl rfl rfl ?_
      refine w_pure (p_loadE1 (i := i) (T := tInt) (L := b) (v := .int .i64 (b[i])) rfl (rd_base (i := 0) rfl hb) (by first | assumption | omega) sh3 rfl) rfl rfl rfl ?_
      refine w_pure (p_ne (p := a[i]) (q := b[i]) rfl rfl) rfl rfl rfl ?_
      refine w_nil ?_
      refine q_then ?_
      refine c_cond (b := (a[i] != b[i])) rfl (fun hc4 => ?_) (fun hc4 => ?_)
      · simp only [bne_iff_ne, ne_eq] at hc4
        refine c_seq ?_
        refine c_region ?_
        refine o_pure (p_assign (v := .bool false) rfl) rfl rfl rfl ?_
        refine o_nil ?_
        refine q_then ?_
        refine c_ret ?_
        refine q_block_ret (q_then_ret (q_then_ret (q_block_ret (q_then_ret ?_))))
        have hr0 : (false : Bool) = (Ref.sameInts a b) := by
          simp only [Ref.sameInts]
          grind [List.ext_getElem]
        refine q_end0 (v := .bool false) (rt1 rfl (r_tmp rfl)) (i := 0) rfl ?_
        exact (by have hcc := congrArg (fun (y0 : Bool) => (.bool y0 : Value)) hr0; exact hcc)
      · simp only [bne_eq_false_iff_eq] at hc4
        refine c_skip ?_
        refine q_block_normal (q_then ?_)
        refine c_region ?_
        refine o_pure (p_move (v := .int .i64 (i : Int)) rfl) rfl rfl rfl ?_
        refine o_pure (p_addb (p := (i : Int)) (q := 1) rfl rfl (by omega)) rfl rfl rfl ?_
        refine o_pure (p_assign (v := .int .i64 ((i : Int) + 1)) rfl) rfl rfl rfl ?_
        refine o_nil ?_
        refine q_round hK2 (i + 1) ?_ ?_ ?_ ?_
        · clear hK2
          refine ⟨by omega, ?_⟩
          grind
        · (try dsimp only); omega
        · exact Sub.cons rfl (Sub.cons rfl (Sub.cons rfl (Sub.nil _)))
        · exact fun _ hw => HeapIs.pick hw [0] (by decide) rfl
    · simp only [decide_eq_false_iff_not, Int.not_lt] at hc3
      refine c_exit ?_
      refine q_then_exit (q_then_exit (q_block_exit (q_then ?_)))
      refine c_seq ?_
      refine c_region ?_
      refine o_pure (p_assign (v := .bool true) rfl) rfl rfl rfl ?_
      refine o_nil ?_
      refine q_then ?_
      refine c_ret ?_
      have hr0 : (true : Bool) = (Ref.sameInts a b) := by
        simp only [Ref.sameInts]
        grind [List.ext_getElem]
      refine q_end0 (v := .bool true) (rt1 rfl (r_tmp rfl)) (i := 0) rfl ?_
      exact (by have hcc := congrArg (fun (y0 : Bool) => (.bool y0 : Value)) hr0; exact hcc)

set_option maxHeartbeats 8000000 in
set_option maxRecDepth 100000 in
theorem right_ok (t : DItem) : Fn0 Try.prog 70 [.agg #[.int .i64 t.key, .int .i64 t.size, .int .i64 t.cost, .int .i64 t.worth]] (fun _ => True) (.bool (Greedy.right t)) := by
  refine fn0 (nt := 31) (F0 := [(0, .agg #[.int .i64 t.key, .int .i64 t.size, .int .i64 t.cost, .int .i64 t.worth])]) Try.func70 rfl Try.ntmps70 rfl rfl (fun w0 hpre => ?_)
  refine c_seq ?_
  refine c_region ?_
  refine o_box (v := .agg #[.int .i64 t.key, .int .i64 t.size, .int .i64 t.cost, .int .i64 t.worth]) rfl rfl (fun B1 => ?_)
  refine o_pure (p_assign (v := .bool false) rfl) rfl rfl rfl ?_
  refine o_nil ?_
  refine q_then ?_
  refine c_seq ?_
  refine c_region ?_
  refine o_pure (p_fieldAddr (B := B1) (j := 0) (j' := 0) rfl fo41_0 rfl) rfl rfl rfl ?_
  refine o_pure (p_load (i := 0) (v := .int .i64 t.key) rfl rfl sh3 rfl) rfl rfl rfl ?_
  refine o_pure (p_ge (p := t.key) (q := 0) rfl rfl) rfl rfl rfl ?_
  refine o_pure (p_move (v := .bool (decide (0 ≤ t.key))) rfl) rfl rfl rfl ?_
  refine o_and (p := 10) 4 (decide (t.key ≤ 1048576)) ?_ ?_ ?_
  · intro hb2 hk
    simp only [decide_eq_true_eq] at hb2
    refine o_unguard 6 rfl rfl ?_
    refine o_pure (p_fieldAddr (B := B1) (j := 0) (j' := 0) rfl fo41_0 rfl) rfl rfl rfl ?_
    refine o_unguard 6 rfl rfl ?_
    refine o_pure (p_load (i := 0) (v := .int .i64 t.key) rfl rfl sh3 rfl) rfl rfl rfl ?_
    refine o_unguard 6 rfl rfl ?_
    refine o_pure (p_le (p := t.key) (q := 1048576) rfl rfl) rfl rfl rfl ?_
    refine o_pure (p_pick_true (u := .bool (decide (t.key ≤ 1048576))) rfl rfl) rfl rfl rfl ?_
    exact o_sub (Sub.cons rfl (Sub.skip rfl (Sub.skip rfl (Sub.skip rfl (Sub.skip rfl (Sub.skip rfl (Sub.refl _))))))) hk
  · intro hb2 hk
    refine o_guard_no rfl 6 rfl rfl rfl rfl rfl ?_
    refine o_guard_no rfl 6 rfl rfl rfl rfl rfl ?_
    refine o_guard_no rfl 6 rfl rfl rfl rfl rfl ?_
    refine o_pure (p_pick_false (v := .bool false) rfl rfl) rfl rfl rfl ?_
    exact o_sub (Sub.cons rfl (Sub.skip rfl (Sub.skip rfl (Sub.skip rfl (Sub.skip rfl (Sub.skip rfl (Sub.refl _))))))) hk
  refine o_pure (p_move (v := .bool (decide (0 ≤ t.key) && decide (t.key ≤ 1048576))) rfl) rfl rfl rfl ?_
  refine o_and (p := 15) 4 (decide (1 ≤ t.size)) ?_ ?_ ?_
  · intro hb3 hk
    simp only [Bool.and_eq_true, decide_eq_true_eq] at hb3
    refine o_unguard 11 rfl rfl ?_
    refine o_pure (p_fieldAddr (B := B1) (j := 0) (j' := 1) rfl fo41_1 rfl) rfl rfl rfl ?_
    refine o_unguard 11 rfl rfl ?_
    refine o_pure (p_load (i := 0) (v := .int .i64 t.size) rfl rfl sh3 rfl) rfl rfl rfl ?_
    refine o_unguard 11 rfl rfl ?_
    refine o_pure (p_ge (p := t.size) (q := 1) rfl rfl) rfl rfl rfl ?_
    refine o_pure (p_pick_true (u := .bool (decide (1 ≤ t.size))) rfl rfl) rfl rfl rfl ?_
    exact o_sub (Sub.cons rfl (Sub.skip rfl (Sub.skip rfl (Sub.skip rfl (Sub.skip rfl (Sub.skip rfl (Sub.refl _))))))) hk
  · intro hb3 hk
    refine o_guard_no rfl 11 rfl rfl rfl rfl rfl ?_
    refine o_guard_no rfl 11 rfl rfl rfl rfl rfl ?_
    refine o_guard_no rfl 11 rfl rfl rfl rfl rfl ?_
    refine o_pure (p_pick_false (v := .bool false) rfl rfl) rfl rfl rfl ?_
    exact o_sub (Sub.cons rfl (Sub.skip rfl (Sub.skip rfl (Sub.skip rfl (Sub.skip rfl (Sub.skip rfl (Sub.refl _))))))) hk
  refine o_pure (p_move (v := .bool ((decide (0 ≤ t.key) && decide (t.key ≤ 1048576)) && decide (1 ≤ t.size))) rfl) rfl rfl rfl ?_
  refine o_and (p := 20) 4 (decide (t.size ≤ 1048576)) ?_ ?_ ?_
  · intro hb4 hk
    simp only [Bool.and_eq_true, decide_eq_true_eq] at hb4
    refine o_unguard 16 rfl rfl ?_
    refine o_pure (p_fieldAddr (B := B1) (j := 0) (j' := 1) rfl fo41_1 rfl) rfl rfl rfl ?_
    refine o_unguard 16 rfl rfl ?_
    refine o_pure (p_load (i := 0) (v := .int .i64 t.size) rfl rfl sh3 rfl) rfl rfl rfl ?_
    refine o_unguard 16 rfl rfl ?_
    refine o_pure (p_le (p := t.size) (q := 1048576) rfl rfl) rfl rfl rfl ?_
    refine o_pure (p_pick_true (u := .bool (decide (t.size ≤ 1048576))) rfl rfl) rfl rfl rfl ?_
    exact o_sub (Sub.cons rfl (Sub.skip rfl (Sub.skip rfl (Sub.skip rfl (Sub.skip rfl (Sub.skip rfl (Sub.refl _))))))) hk
  · intro hb4 hk
    refine o_guard_no rfl 16 rfl rfl rfl rfl rfl ?_
    refine o_guard_no rfl 16 rfl rfl rfl rfl rfl ?_
    refine o_guard_no rfl 16 rfl rfl rfl rfl rfl ?_
    refine o_pure (p_pick_false (v := .bool false) rfl rfl) rfl rfl rfl ?_
    exact o_sub (Sub.cons rfl (Sub.skip rfl (Sub.skip rfl (Sub.skip rfl (Sub.skip rfl (Sub.skip rfl (Sub.refl _))))))) hk
  refine o_pure (p_move (v := .bool (((decide (0 ≤ t.key) && decide (t.key ≤ 1048576)) && decide (1 ≤ t.size)) && decide (t.size ≤ 1048576))) rfl) rfl rfl rfl ?_
  refine o_and (p := 25) 4 (decide (0 ≤ t.cost)) ?_ ?_ ?_
  · intro hb5 hk
    simp only [Bool.and_eq_true, decide_eq_true_eq] at hb5
    refine o_unguard 21 rfl rfl ?_
    refine o_pure (p_fieldAddr (B := B1) (j := 0) (j' := 2) rfl fo41_2 rfl) rfl rfl rfl ?_
    refine o_unguard 21 rfl rfl ?_
    refine o_pure (p_load (i := 0) (v := .int .i64 t.cost) rfl rfl sh3 rfl) rfl rfl rfl ?_
    refine o_unguard 21 rfl rfl ?_
    refine o_pure (p_ge (p := t.cost) (q := 0) rfl rfl) rfl rfl rfl ?_
    refine o_pure (p_pick_true (u := .bool (decide (0 ≤ t.cost))) rfl rfl) rfl rfl rfl ?_
    exact o_sub (Sub.cons rfl (Sub.skip rfl (Sub.skip rfl (Sub.skip rfl (Sub.skip rfl (Sub.skip rfl (Sub.refl _))))))) hk
  · intro hb5 hk
    refine o_guard_no rfl 21 rfl rfl rfl rfl rfl ?_
    refine o_guard_no rfl 21 rfl rfl rfl rfl rfl ?_
    refine o_guard_no rfl 21 rfl rfl rfl rfl rfl ?_
    refine o_pure (p_pick_false (v := .bool false) rfl rfl) rfl rfl rfl ?_
    exact o_sub (Sub.cons rfl (Sub.skip rfl (Sub.skip rfl (Sub.skip rfl (Sub.skip rfl (Sub.skip rfl (Sub.refl _))))))) hk
  refine o_pure (p_move (v := .bool ((((decide (0 ≤ t.key) && decide (t.key ≤ 1048576)) && decide (1 ≤ t.size)) && decide (t.size ≤ 1048576)) && decide (0 ≤ t.cost))) rfl) rfl rfl rfl ?_
  refine o_and (p := 30) 4 (decide (t.cost ≤ 1048576)) ?_ ?_ ?_
  · intro hb6 hk
    simp only [Bool.and_eq_true, decide_eq_true_eq] at hb6
    refine o_unguard 26 rfl rfl ?_
    refine o_pure (p_fieldAddr (B := B1) (j := 0) (j' := 2) rfl fo41_2 rfl) rfl rfl rfl ?_
    refine o_unguard 26 rfl rfl ?_
    refine o_pure (p_load (i := 0) (v := .int .i64 t.cost) rfl rfl sh3 rfl) rfl rfl rfl ?_
    refine o_unguard 26 rfl rfl ?_
    refine o_pure (p_le (p := t.cost) (q := 1048576) rfl rfl) rfl rfl rfl ?_
    refine o_pure (p_pick_true (u := .bool (decide (t.cost ≤ 1048576))) rfl rfl) rfl rfl rfl ?_
    exact o_sub (Sub.cons rfl (Sub.skip rfl (Sub.skip rfl (Sub.skip rfl (Sub.skip rfl (Sub.skip rfl (Sub.refl _))))))) hk
  · intro hb6 hk
    refine o_guard_no rfl 26 rfl rfl rfl rfl rfl ?_
    refine o_guard_no rfl 26 rfl rfl rfl rfl rfl ?_
    refine o_guard_no rfl 26 rfl rfl rfl rfl rfl ?_
    refine o_pure (p_pick_false (v := .bool false) rfl rfl) rfl rfl rfl ?_
    exact o_sub (Sub.cons rfl (Sub.skip rfl (Sub.skip rfl (Sub.skip rfl (Sub.skip rfl (Sub.skip rfl (Sub.refl _))))))) hk
  refine o_pure (p_assign (v := .bool (((((decide (0 ≤ t.key) && decide (t.key ≤ 1048576)) && decide (1 ≤ t.size)) && decide (t.size ≤ 1048576)) && decide (0 ≤ t.cost)) && decide (t.cost ≤ 1048576))) rfl) rfl rfl rfl ?_
  refine o_nil ?_
  refine q_then ?_
  refine c_ret ?_
  have hr0 : ((((((decide (0 ≤ t.key) && decide (t.key ≤ 1048576)) && decide (1 ≤ t.size)) && decide (t.size ≤ 1048576)) && decide (0 ≤ t.cost)) && decide (t.cost ≤ 1048576)) : Bool) = (Greedy.right t) := by
    rfl
  refine q_end0 (v := .bool (((((decide (0 ≤ t.key) && decide (t.key ≤ 1048576)) && decide (1 ≤ t.size)) && decide (t.size ≤ 1048576)) && decide (0 ≤ t.cost)) && decide (t.cost ≤ 1048576))) (rt1 rfl (r_tmp rfl)) (i := 1) rfl ?_
  exact (by have hcc := congrArg (fun (y0 : Bool) => (.bool y0 : Value)) hr0; exact hcc)

set_option maxHeartbeats 8000000 in
set_option maxRecDepth 100000 in
theorem sums_ok (l : List DItem) (al : Option Addr) (cl : Nat) (hy1 : Greedy.Fine l) : Fn0 Try.prog 75 [.slice al l.length cl] (fun w => Rd tItem w al cl l) (.tuple #[.int .i64 (Greedy.sizes l), .int .i64 (Greedy.costs l)]) := by
  refine fn0 (nt := 23) (F0 := [(0, .slice al l.length cl)]) Try.func75 rfl Try.ntmps75 rfl rfl (fun w0 hpre => ?_)
  have hl := hpre
  have hlhl := hl.2.1
  refine c_seq ?_
  refine c_region ?_
  refine o_pure (p_assign (v := .int .i64 0) rfl) rfl rfl rfl ?_
  refine o_pure (p_assign (v := .int .i64 0) rfl) rfl rfl rfl ?_
  refine o_nil ?_
  refine q_then ?_
  refine c_seq ?_
  refine c_seq ?_
  refine c_region ?_
  refine o_pure (p_move (v := .slice al l.length cl) rfl) rfl rfl rfl ?_
  refine o_pure (p_len_slice (len := l.length) rfl rfl Try.underlying37) rfl rfl rfl ?_
  refine o_pure (p_move (v := .int .i64 0) rfl) rfl rfl rfl ?_
  refine o_nil ?_
  refine q_then ?_
  refine c_block ?_
  refine c_loop (St := Int × Int × Nat)
    (fun ⟨sizes, costs, k⟩ => [(2, .int .i64 sizes), (3, .int .i64 costs), (6, .slice al l.length cl), (7, .int .i64 (l.length : Int)), (8, .int .i64 (k : Int))])
    (fun ⟨sizes, costs, k⟩ => [base w0])
    (fun ⟨sizes, costs, k⟩ => Greedy.SInv l sizes costs k)
    (fun ⟨sizes, costs, k⟩ => l.length - k)
    (0, 0, 0) ?_ (Sub.cons rfl (Sub.cons rfl (Sub.cons rfl (Sub.cons rfl (Sub.cons rfl (Sub.nil _)))))) (fun _ hw => hw) ?_
  · exact Greedy.SInv.start l
  rintro ⟨sizes, costs, k⟩ hI K hK1
  have hbd := hI.bd hy1
  show SC _ _ Try.prog 23 w0 _ _ [(2, .int .i64 sizes), (3, .int .i64 costs), (6, .slice al l.length cl), (7, .int .i64 (l.length : Int)), (8, .int .i64 (k : Int))] [base w0]
  refine c_seq ?_
  refine c_region ?_
  refine o_pure (p_lt (p := (k : Int)) (q := (l.length : Int)) rfl rfl) rfl rfl rfl ?_
  refine o_nil ?_
  refine q_then ?_
  refine c_seq ?_
  refine c_cond (b := decide ((k : Int) < (l.length : Int))) rfl (fun hc2 => ?_) (fun hc2 => ?_)
  · simp only [decide_eq_true_eq] at hc2
    have hit := Greedy.SInv.it (k := k) hy1 (by omega)
    refine c_skip ?_
    refine q_then ?_
    refine c_seq ?_
    refine c_block ?_
    refine c_seq ?_
    refine c_region ?_
    refine o_pure (p_indexAddr (L := l) (T := tItem) (i := (k : Int)) rfl rfl (rd_base (i := 0) rfl hl) Try.underlying37 sz41 (by omega) (by omega)) rfl rfl rfl ?_
    refine o_pure (p_loadEn (i := k) (T := tItem) (L := l) (vs := [.int .i64 ((l[k]).key), .int .i64 ((l[k]).size), .int .i64 ((l[k]).cost), .int .i64 ((l[k]).worth)]) rfl (rd_base (i := 0) rfl hl) (by first | assumption | omega) sh41 rfl) rfl rfl rfl ?_
    refine o_alloc ze41 rfl (fun B3 => ?_)
    refine o_storeN (i := 0) (vs := [.int .i64 ((l[k]).key), .int .i64 ((l[k]).size), .int .i64 ((l[k]).cost), .int .i64 ((l[k]).worth)]) (cs' := [.int .i64 ((l[k]).key), .int .i64 ((l[k]).size), .int .i64 ((l[k]).cost), .int .i64 ((l[k]).worth)]) rfl rfl rfl sz41 rfl rfl rfl rfl ?_
    refine o_nil ?_
    refine q_then ?_
    refine c_draw hmix (by kernel_rfl) ?_
    refine w_pure (p_move (v := .int .i64 sizes) rfl) rfl rfl rfl ?_
    refine w_pure (p_fieldAddr (B := B3) (j := 0) (j' := 1) rfl fo41_1 rfl) rfl rfl rfl ?_
    refine w_pure (p_load (i := 0) (v := .int .i64 ((l[k]).size)) rfl rfl sh3 rfl) rfl rfl rfl ?_
    refine w_pure (p_addb (p := sizes) (q := (l[k]).size) rfl rfl (by omega)) rfl rfl rfl ?_
    refine w_pure (p_move (v := .int .i64 costs) rfl) rfl rfl rfl ?_
    refine w_pure (p_fieldAddr (B := B3) (j := 0) (j' := 2) rfl fo41_2 rfl) rfl rfl rfl ?_
    refine w_pure (p_load (i := 0) (v := .int .i64 ((l[k]).cost)) rfl rfl sh3 rfl) rfl rfl rfl ?_
    refine w_pure (p_addb (p := costs) (q := (l[k]).cost) rfl rfl (by omega)) rfl rfl rfl ?_
    refine w_pure (p_assign (v := .int .i64 (sizes + (l[k]).size)) rfl) rfl rfl rfl ?_
    refine w_pure (p_assign (v := .int .i64 (costs + (l[k]).cost)) rfl) rfl rfl rfl ?_
    refine w_nil ?_
    refine q_block_normal (q_then ?_)
    refine c_region ?_
    refine o_pure (p_addb (p := (k : Int)) (q := 1) rfl rfl (by omega)) rfl rfl rfl ?_
    refine o_pure (p_move (v := .int .i64 ((k : Int) + 1)) rfl) rfl rfl rfl ?_
    refine o_nil ?_
    refine q_round hK1 ((sizes + (l[k]).size), (costs + (l[k]).cost), k + 1) ?_ ?_ ?_ ?_
    · clear hK1
      exact hI.next (by omega)
    · (try dsimp only); omega
    · exact Sub.cons rfl (Sub.cons rfl (Sub.cons rfl (Sub.cons rfl (Sub.cons rfl (Sub.nil _)))))
    · exact fun _ hw => HeapIs.pick hw [1] (by decide) rfl
  · simp only [decide_eq_false_iff_not, Int.not_lt] at hc2
    refine c_exit ?_
    refine q_then_exit (q_then_exit (q_block_exit (q_then ?_)))
    refine c_seq ?_
    refine c_region ?_
    refine o_pure (p_move (v := .int .i64 sizes) rfl) rfl rfl rfl ?_
    refine o_pure (p_move (v := .int .i64 costs) rfl) rfl rfl rfl ?_
    refine o_pure (p_assign (v := .int .i64 sizes) rfl) rfl rfl rfl ?_
    refine o_pure (p_assign (v := .int .i64 costs) rfl) rfl rfl rfl ?_
    refine o_nil ?_
    refine q_then ?_
    refine c_ret ?_
    obtain ⟨hd1, hd2⟩ := hI.done (by omega)
    have hr0 : (sizes : Int) = (Greedy.sizes l) := by
      exact hd1
    have hr1 : (costs : Int) = (Greedy.costs l) := by
      exact hd2
    refine q_end0 (v := .tuple #[.int .i64 sizes, .int .i64 costs]) (rt2 rfl (r_tmp rfl) (r_tmp rfl)) (i := 0) rfl ?_
    exact (by have hcc := congr (congrArg (fun (y0 : Int) (y1 : Int) => (.tuple #[.int .i64 y0, .int .i64 y1] : Value)) hr0) hr1; exact hcc)

set_option maxHeartbeats 8000000 in
set_option maxRecDepth 100000 in
theorem least_ok (l : List DItem) (al : Option Addr) (cl : Nat) : Fn0 Try.prog 76 [.slice al l.length cl] (fun w => Rd tItem w al cl l) (.int .i64 (Greedy.least l : Int)) := by
  refine fn0 (nt := 24) (F0 := [(0, .slice al l.length cl)]) Try.func76 rfl Try.ntmps76 rfl rfl (fun w0 hpre => ?_)
  have hl := hpre
  have hlhl := hl.2.1
  refine c_seq ?_
  refine c_region ?_
  refine o_pure (p_assign (v := .int .i64 0) rfl) rfl rfl rfl ?_
  refine o_nil ?_
  refine q_then ?_
  refine c_seq ?_
  refine c_region ?_
  refine o_pure (p_assign (v := .int .i64 0) rfl) rfl rfl rfl ?_
  refine o_nil ?_
  refine q_then ?_
  refine c_seq ?_
  refine c_seq ?_
  refine c_region ?_
  refine o_pure (p_move (v := .slice al l.length cl) rfl) rfl rfl rfl ?_
  refine o_pure (p_len_slice (len := l.length) rfl rfl Try.underlying37) rfl rfl rfl ?_
  refine o_pure (p_move (v := .int .i64 0) rfl) rfl rfl rfl ?_
  refine o_nil ?_
  refine q_then ?_
  refine c_block ?_
  refine c_loop (St := Int × Nat)
    (fun ⟨best, k⟩ => [(0, .slice al l.length cl), (3, .int .i64 best), (6, .slice al l.length cl), (7, .int .i64 (l.length : Int)), (8, .int .i64 (k : Int))])
    (fun ⟨best, k⟩ => [base w0])
    (fun ⟨best, k⟩ => Greedy.BInv l best k)
    (fun ⟨best, k⟩ => l.length - k)
    (0, 0) ?_ (Sub.cons rfl (Sub.cons rfl (Sub.cons rfl (Sub.cons rfl (Sub.cons rfl (Sub.nil _)))))) (fun _ hw => hw) ?_
  · exact Greedy.BInv.start l
  rintro ⟨best, k⟩ hI K hK1
  show SC _ _ Try.prog 24 w0 _ _ [(0, .slice al l.length cl), (3, .int .i64 best), (6, .slice al l.length cl), (7, .int .i64 (l.length : Int)), (8, .int .i64 (k : Int))] [base w0]
  refine c_seq ?_
  refine c_region ?_
  refine o_pure (p_lt (p := (k : Int)) (q := (l.length : Int)) rfl rfl) rfl rfl rfl ?_
  refine o_nil ?_
  refine q_then ?_
  refine c_seq ?_
  refine c_cond (b := decide ((k : Int) < (l.length : Int))) rfl (fun hc2 => ?_) (fun hc2 => ?_)
  · simp only [decide_eq_true_eq] at hc2
    have hbd := hI.bd (by omega)
    refine c_skip ?_
    refine q_then ?_
    refine c_seq ?_
    refine c_block ?_
    refine c_seq ?_
    refine c_region ?_
    refine o_pure (p_move (v := .int .i64 (k : Int)) rfl) rfl rfl rfl ?_
    refine o_pure (p_indexAddr (L := l) (T := tItem) (i := (k : Int)) rfl rfl (rd_base (i := 0) rfl hl) Try.underlying37 sz41 (by omega) (by omega)) rfl rfl rfl ?_
    refine o_pure (p_loadEn (i := k) (T := tItem) (L := l) (vs := [.int .i64 ((l[k]).key), .int .i64 ((l[k]).size), .int .i64 ((l[k]).cost), .int .i64 ((l[k]).worth)]) rfl (rd_base (i := 0) rfl hl) (by first | assumption | omega) sh41 rfl) rfl rfl rfl ?_
    refine o_alloc ze41 rfl (fun B3 => ?_)
    refine o_pure (p_assign (v := .int .i64 (k : Int)) rfl) rfl rfl rfl ?_
    refine o_storeN (i := 0) (vs := [.int .i64 ((l[k]).key), .int .i64 ((l[k]).size), .int .i64 ((l[k]).cost), .int .i64 ((l[k]).worth)]) (cs' := [.int .i64 ((l[k]).key), .int .i64 ((l[k]).size), .int .i64 ((l[k]).cost), .int .i64 ((l[k]).worth)]) rfl rfl rfl sz41 rfl rfl rfl rfl ?_
    refine o_nil ?_
    refine q_then ?_
    refine c_seq ?_
    refine c_draw hmix (by kernel_rfl) ?_
    refine w_pure (p_fieldAddr (B := B3) (j := 0) (j' := 3) rfl fo41_3 rfl) rfl rfl rfl ?_
    refine w_pure (p_load (i := 0) (v := .int .i64 ((l[k]).worth)) rfl rfl sh3 rfl) rfl rfl rfl ?_
    refine w_pure (p_move (v := .slice al l.length cl) rfl) rfl rfl rfl ?_
    refine w_pure (p_move (v := .int .i64 best) rfl) rfl rfl rfl ?_
    refine w_pure (p_indexAddr (L := l) (T := tItem) (i := best) rfl rfl (rd_base (i := 1) rfl hl) Try.underlying37 sz41 (by omega) (by omega)) rfl rfl rfl ?_
    refine w_pure (p_fieldAddrE rfl fo41_3) rfl rfl rfl ?_
    refine w_pure (p_loadF (i := best.toNat) (j := 3) (T := tItem) (L := l) (v := .int .i64 ((l[best.toNat]).worth)) rfl (rd_base (i := 1) rfl hl) (by first | assumption | omega) sh3 rfl) rfl rfl rfl ?_
    refine w_pure (p_lt (p := (l[k]).worth) (q := (l[best.toNat]).worth) rfl rfl) rfl rfl rfl ?_
    refine w_nil ?_
    refine q_then ?_
    refine c_cond (b := decide ((l[k]).worth < (l[best.toNat]).worth)) rfl (fun hc4 => ?_) (fun hc4 => ?_)
    · simp only [decide_eq_true_eq] at hc4
      refine c_region ?_
      refine o_pure (p_move (v := .int .i64 (k : Int)) rfl) rfl rfl rfl ?_
      refine o_pure (p_assign (v := .int .i64 (k : Int)) rfl) rfl rfl rfl ?_
      refine o_nil ?_
      refine q_block_normal (q_then ?_)
      refine c_region ?_
      refine o_pure (p_addb (p := (k : Int)) (q := 1) rfl rfl (by omega)) rfl rfl rfl ?_
      refine o_pure (p_move (v := .int .i64 ((k : Int) + 1)) rfl) rfl rfl rfl ?_
      refine o_nil ?_
      refine q_round hK1 ((k : Int), k + 1) ?_ ?_ ?_ ?_
      · clear hK1
        first | exact hI.less (by omega) (by omega) (by assumption) | exact hI.not (by omega) (by omega) (by assumption)
      · (try dsimp only); omega
      · exact Sub.cons rfl (Sub.cons rfl (Sub.cons rfl (Sub.cons rfl (Sub.cons rfl (Sub.nil _)))))
      · exact fun _ hw => HeapIs.pick hw [1] (by decide) rfl
    · simp only [decide_eq_false_iff_not, Int.not_lt] at hc4
      refine c_skip ?_
      refine q_block_normal (q_then ?_)
      refine c_region ?_
      refine o_pure (p_addb (p := (k : Int)) (q := 1) rfl rfl (by omega)) rfl rfl rfl ?_
      refine o_pure (p_move (v := .int .i64 ((k : Int) + 1)) rfl) rfl rfl rfl ?_
      refine o_nil ?_
      refine q_round hK1 (best, k + 1) ?_ ?_ ?_ ?_
      · clear hK1
        first | exact hI.less (by omega) (by omega) (by assumption) | exact hI.not (by omega) (by omega) (by assumption)
      · (try dsimp only); omega
      · exact Sub.cons rfl (Sub.cons rfl (Sub.cons rfl (Sub.cons rfl (Sub.cons rfl (Sub.nil _)))))
      · exact fun _ hw => HeapIs.pick hw [1] (by decide) rfl
  · simp only [decide_eq_false_iff_not, Int.not_lt] at hc2
    refine c_exit ?_
    refine q_then_exit (q_then_exit (q_block_exit (q_then ?_)))
    refine c_seq ?_
    refine c_region ?_
    refine o_pure (p_move (v := .int .i64 best) rfl) rfl rfl rfl ?_
    refine o_pure (p_assign (v := .int .i64 best) rfl) rfl rfl rfl ?_
    refine o_nil ?_
    refine q_then ?_
    refine c_ret ?_
    have hr0 : (best : Int) = (Greedy.least l : Int) := by
      exact hI.done (by omega)
    refine q_end0 (v := .int .i64 best) (rt1 rfl (r_tmp rfl)) (i := 0) rfl ?_
    exact (by have hcc := congrArg (fun (y0 : Int) => (.int .i64 y0 : Value)) hr0; exact hcc)

set_option maxHeartbeats 8000000 in
set_option maxRecDepth 100000 in
theorem fresh_ok (floor : Int) (t : DItem) (hy1 : (0 ≤ floor ∧ floor ≤ 1125899906842624) ∧ Greedy.right t = true) : Fn0 Try.prog 74 [.int .i64 floor, .agg #[.int .i64 t.key, .int .i64 t.size, .int .i64 t.cost, .int .i64 t.worth]] (fun _ => True) (.int .i64 (Greedy.fresh floor t)) := by
  refine fn0 (nt := 14) (F0 := [(0, .int .i64 floor), (1, .agg #[.int .i64 t.key, .int .i64 t.size, .int .i64 t.cost, .int .i64 t.worth])]) Try.func74 rfl Try.ntmps74 rfl rfl (fun w0 hpre => ?_)
  have hr := Greedy.right_ok hy1.2
  have htd := Greedy.tdiv_bd hy1.2
  obtain ⟨hf, _⟩ := hy1
  refine c_seq ?_
  refine c_region ?_
  refine o_box (v := .agg #[.int .i64 t.key, .int .i64 t.size, .int .i64 t.cost, .int .i64 t.worth]) rfl rfl (fun B1 => ?_)
  refine o_pure (p_assign (v := .int .i64 0) rfl) rfl rfl rfl ?_
  refine o_nil ?_
  refine q_then ?_
  refine c_seq ?_
  refine c_region ?_
  refine o_pure (p_move (v := .int .i64 floor) rfl) rfl rfl rfl ?_
  refine o_pure (p_fieldAddr (B := B1) (j := 0) (j' := 2) rfl fo41_2 rfl) rfl rfl rfl ?_
  refine o_pure (p_load (i := 0) (v := .int .i64 t.cost) rfl rfl sh3 rfl) rfl rfl rfl ?_
  refine o_pure (p_mulb (p := 1024) (q := t.cost) rfl rfl (by omega)) rfl rfl rfl ?_
  refine o_pure (p_fieldAddr (B := B1) (j := 0) (j' := 1) rfl fo41_1 rfl) rfl rfl rfl ?_
  refine o_pure (p_load (i := 0) (v := .int .i64 t.size) rfl rfl sh3 rfl) rfl rfl rfl ?_
  refine o_pure (p_quob (p := (1024 * t.cost)) (q := t.size) rfl rfl (by omega) (by omega)) rfl rfl rfl ?_
  refine o_pure (p_addb (p := floor) (q := ((1024 * t.cost).tdiv t.size)) rfl rfl (by omega)) rfl rfl rfl ?_
  refine o_pure (p_min (p := (floor + ((1024 * t.cost).tdiv t.size))) (q := 1125899906842624) rfl rfl) rfl rfl rfl ?_
  refine o_pure (p_assign (v := .int .i64 (min (floor + ((1024 * t.cost).tdiv t.size)) 1125899906842624)) rfl) rfl rfl rfl ?_
  refine o_nil ?_
  refine q_then ?_
  refine c_ret ?_
  have hr0 : ((min (floor + ((1024 * t.cost).tdiv t.size)) 1125899906842624) : Int) = (Greedy.fresh floor t) := by
    rfl
  refine q_end0 (v := .int .i64 (min (floor + ((1024 * t.cost).tdiv t.size)) 1125899906842624)) (rt1 rfl (r_tmp rfl)) (i := 1) rfl ?_
  exact (by have hcc := congrArg (fun (y0 : Int) => (.int .i64 y0 : Value)) hr0; exact hcc)

set_option maxHeartbeats 8000000 in
set_option maxRecDepth 100000 in
theorem access1_ok (x : DItem) (Bt : Nat) (t : DItem) : Fn0 Try.prog 73 [.agg #[.int .i64 x.key, .int .i64 x.size, .int .i64 x.cost, .int .i64 x.worth], .pointer (some ⟨Bt, 0, none⟩)] (fun w => (box Bt [.int .i64 t.key, .int .i64 t.size, .int .i64 t.cost, .int .i64 t.worth] 41).A w) (.bool (x.key == t.key)) := by
  refine fn0 (nt := 9) (F0 := [(0, .agg #[.int .i64 x.key, .int .i64 x.size, .int .i64 x.cost, .int .i64 x.worth]), (1, .pointer (some ⟨Bt, 0, none⟩))]) Try.func73 rfl Try.ntmps73 rfl rfl (fun w0 hpre => ?_)
  have hBt := hpre
  refine c_seq ?_
  refine c_region ?_
  refine o_box (v := .agg #[.int .i64 x.key, .int .i64 x.size, .int .i64 x.cost, .int .i64 x.worth]) rfl rfl (fun B1 => ?_)
  refine o_pure (p_assign (v := .bool false) rfl) rfl rfl rfl ?_
  refine o_nil ?_
  refine q_then ?_
  refine c_seq ?_
  refine c_region ?_
  refine o_pure (p_fieldAddr (B := B1) (j := 0) (j' := 0) rfl fo41_0 rfl) rfl rfl rfl ?_
  refine o_pure (p_load (i := 0) (v := .int .i64 x.key) rfl rfl sh3 rfl) rfl rfl rfl ?_
  refine o_pure (p_fieldAddr (B := Bt) (j := 0) (j' := 0) rfl fo41_0 rfl) rfl rfl rfl ?_
  refine o_pure (p_loadR (v := .int .i64 t.key) rfl (rbox_base (i := 1) rfl hBt) sh3 rfl) rfl rfl rfl ?_
  refine o_pure (p_eq (p := x.key) (q := t.key) rfl rfl) rfl rfl rfl ?_
  refine o_pure (p_assign (v := .bool (x.key == t.key)) rfl) rfl rfl rfl ?_
  refine o_nil ?_
  refine q_then ?_
  refine c_ret ?_
  refine q_end0 (v := .bool (x.key == t.key)) (rt1 rfl (r_tmp rfl)) (i := 1) rfl ?_
  exact rfl

set_option maxHeartbeats 8000000 in
set_option maxRecDepth 100000 in
theorem clone_Item_ok (l : List DItem) (al : Option Addr) (cl : Nat) (hy1 : l.length ≤ 1000000) : FnM Try.prog 71 [.slice al l.length cl] (fun w => Rd tItem w al cl l) (Option Addr × Nat) (fun p => .slice p.1 l.length p.2) (fun p S w => SlO tItem S w p.1 p.2 l) := by
  refine fnM (nt := 8) (F0 := [(0, .slice al l.length cl)]) Try.func71 rfl Try.ntmps71 rfl rfl (fun w0 hpre => ?_)
  have hl := hpre
  have hlhl := hl.2.1
  refine c_seq ?_
  refine c_region ?_
  refine o_pure (p_assign (v := .slice none 0 0) rfl) rfl rfl rfl ?_
  refine o_nil ?_
  refine q_then ?_
  refine c_seq ?_
  refine c_seq ?_
  refine c_region ?_
  refine o_pure (p_move (v := .slice al l.length cl) rfl) rfl rfl rfl ?_
  refine o_pure (p_eqNil rfl rfl Try.underlying37) rfl rfl rfl ?_
  refine o_nil ?_
  refine q_then ?_
  refine c_cond (b := al.isNone) rfl (fun hc1 => ?_) (fun hc1 => ?_)
  · skip
    refine c_seq ?_
    refine c_region ?_
    refine o_pure (p_assign (v := .slice none 0 0) rfl) rfl rfl rfl ?_
    refine o_nil ?_
    refine q_then ?_
    refine c_ret ?_
    refine q_then_ret ?_
    have hr0 : ([] : List DItem) = l := by
      first | exact (rd_isNone hl (by assumption)).symm | simp
    refine q_endM (p := (none, 0)) (fun _ => False) (rt1 rfl (r_tmp rfl)) (i := 0) rfl ?_ ?_ ?_
    · exact (by have hcc := congrArg (fun (y0 : List DItem) => (.slice none y0.length 0 : Value)) hr0; exact hcc)
    · intro w hw b hb; exact hb.elim
    · intro w hw; exact Eq.mp (congrArg (fun y => SlO tItem _ w none 0 y) hr0) (SlO.nil tItem w)
  · skip
    refine c_skip ?_
    refine q_then ?_
    refine c_seq ?_
    refine c_region ?_
    refine o_buildSlice (m := 0) (T := tItem) (L := []) (vs := []) rfl rfl rfl rfl Try.underlying37 sz41 (by decide) ze41 rfl (by decide) rfl (fun S2 a3 => ?_)
    refine o_pure (p_move (v := .slice al l.length cl) rfl) rfl rfl rfl ?_
    refine o_append (i := 0) (L := []) (M := l) (T := tItem) rfl rfl rfl (rd_base (i := 1) rfl hl) Try.underlying37 Try.underlying37 (by intro k h; cases h) el41 (by intro z; simp [tItem, one1]) (by decide) (by simp only [List.length_nil]; omega) rfl (fun a5 c6 S7 => ?_)
    refine o_pure (p_assign (v := .slice a5 ([] ++ l).length c6) rfl) rfl rfl rfl ?_
    refine o_nil ?_
    refine q_then ?_
    refine c_ret ?_
    have hr0 : (([] ++ l) : List DItem) = l := by
      first | exact (rd_isNone hl (by assumption)).symm | simp
    refine q_endM (p := (a5, c6)) S7 (rt1 rfl (r_tmp rfl)) (i := 1) rfl ?_ ?_ ?_
    · exact (by have hcc := congrArg (fun (y0 : List DItem) => (.slice a5 y0.length c6 : Value)) hr0; exact hcc)
    · exact fun w hw => hw.above (i := 1) (j := 0) (by decide) rfl rfl
    · intro w hw; exact Eq.mp (congrArg (fun y => SlO tItem _ w a5 c6 y) hr0) ((hw.at (i := 0) rfl).here)

set_option maxHeartbeats 8000000 in
set_option maxRecDepth 100000 in
theorem indexFunc_Item_ok (l : List DItem) (al : Option Addr) (cl : Nat) (gf : FuncId) (kf : List Value) (f : DItem → Bool) (Pf : World → Prop) (stf : ∀ w w', Below w.heap.size w w' → Pf w → Pf w') (okf : ∀ x : DItem, Fn0 Try.prog gf (.agg #[.int .i64 x.key, .int .i64 x.size, .int .i64 x.cost, .int .i64 x.worth] :: kf) Pf (.bool (f x))) (hpf : HasFn Try.prog gf) : Fn0 Try.prog 72 [.slice al l.length cl, .func (.func gf) #[] kf.toArray] (fun w => Rd tItem w al cl l ∧ Pf w) (.int .i64 (idxF f l)) := by
  refine fn0 (nt := 19) (F0 := [(0, .slice al l.length cl), (1, .func (.func gf) #[] kf.toArray)]) Try.func72 rfl Try.ntmps72 rfl rfl (fun w0 hpre => ?_)
  obtain ⟨hl, hf⟩ := hpre
  have hlhl := hl.2.1
  refine c_seq ?_
  refine c_region ?_
  refine o_pure (p_assign (v := .int .i64 0) rfl) rfl rfl rfl ?_
  refine o_nil ?_
  refine q_then ?_
  refine c_seq ?_
  refine c_seq ?_
  refine c_region ?_
  refine o_pure (p_move (v := .slice al l.length cl) rfl) rfl rfl rfl ?_
  refine o_pure (p_len_slice (len := l.length) rfl rfl Try.underlying37) rfl rfl rfl ?_
  refine o_pure (p_move (v := .int .i64 0) rfl) rfl rfl rfl ?_
  refine o_nil ?_
  refine q_then ?_
  refine c_block ?_
  refine c_loop (St := Nat)
    (fun k => [(0, .slice al l.length cl), (1, .func (.func gf) #[] kf.toArray), (7, .int .i64 (l.length : Int)), (8, .int .i64 (k : Int))])
    (fun k => [base w0])
    (fun k => k ≤ l.length ∧ ∀ j (h : j < l.length), j < k → f l[j] = false)
    (fun k => l.length - k)
    0 ?_ (Sub.cons rfl (Sub.cons rfl (Sub.cons rfl (Sub.cons rfl (Sub.nil _))))) (fun _ hw => hw) ?_
  · exact ⟨Nat.zero_le _, fun j _ h => absurd h (by omega)⟩
  rintro k hI K hK1
  obtain ⟨hI1, hI2⟩ := hI
  show SC _ _ Try.prog 19 w0 _ _ [(0, .slice al l.length cl), (1, .func (.func gf) #[] kf.toArray), (7, .int .i64 (l.length : Int)), (8, .int .i64 (k : Int))] [base w0]
  refine c_seq ?_
  refine c_region ?_
  refine o_pure (p_lt (p := (k : Int)) (q := (l.length : Int)) rfl rfl) rfl rfl rfl ?_
  refine o_nil ?_
  refine q_then ?_
  refine c_seq ?_
  refine c_cond (b := decide ((k : Int) < (l.length : Int))) rfl (fun hc2 => ?_) (fun hc2 => ?_)
  · simp only [decide_eq_true_eq] at hc2
    refine c_skip ?_
    refine q_then ?_
    refine c_seq ?_
    refine c_block ?_
    refine c_seq ?_
    refine c_region ?_
    refine o_pure (p_move (v := .int .i64 (k : Int)) rfl) rfl rfl rfl ?_
    refine o_pure (p_assign (v := .int .i64 (k : Int)) rfl) rfl rfl rfl ?_
    refine o_nil ?_
    refine q_then ?_
    refine c_seq ?_
    refine c_region ?_
    refine o_pure (p_move (v := .func (.func gf) #[] kf.toArray) rfl) rfl rfl rfl ?_
    refine o_pure (p_move (v := .slice al l.length cl) rfl) rfl rfl rfl ?_
    refine o_pure (p_move (v := .int .i64 (k : Int)) rfl) rfl rfl rfl ?_
    refine o_pure (p_indexAddr (L := l) (T := tItem) (i := (k : Int)) rfl rfl (rd_base (i := 0) rfl hl) Try.underlying37 sz41 (by omega) (by omega)) rfl rfl rfl ?_
    refine o_pure (p_loadEn (i := k) (T := tItem) (L := l) (vs := [.int .i64 ((l[k]).key), .int .i64 ((l[k]).size), .int .i64 ((l[k]).cost), .int .i64 ((l[k]).worth)]) rfl (rd_base (i := 0) rfl hl) (by first | assumption | omega) sh41 rfl) rfl rfl rfl ?_
    refine o_call0V (vs := [.agg #[.int .i64 ((l[k]).key), .int .i64 ((l[k]).size), .int .i64 ((l[k]).cost), .int .i64 ((l[k]).worth)]]) (caps := kf) (v := .bool (f (l[k]))) rfl rfl (okf (l[k])) hpf (pre_base (i := 0) rfl stf hf) rfl ?_
    refine o_nil ?_
    refine q_then ?_
    refine c_cond (b := (f (l[k]))) rfl (fun hc3 => ?_) (fun hc3 => ?_)
    · skip
      refine c_seq ?_
      refine c_region ?_
      refine o_pure (p_move (v := .int .i64 (k : Int)) rfl) rfl rfl rfl ?_
      refine o_pure (p_assign (v := .int .i64 (k : Int)) rfl) rfl rfl rfl ?_
      refine o_nil ?_
      refine q_then ?_
      refine c_ret ?_
      refine q_block_ret (q_then_ret (q_then_ret (q_block_ret (q_then_ret ?_))))
      have hr0 : ((k : Int) : Int) = (idxF f l) := by
        first | exact idxF_found (by omega) (by assumption) hI2 | exact idxF_none (fun j h => hI2 j h (by omega))
      refine q_end0 (v := .int .i64 (k : Int)) (rt1 rfl (r_tmp rfl)) (i := 0) rfl ?_
      exact (by have hcc := congrArg (fun (y0 : Int) => (.int .i64 y0 : Value)) hr0; exact hcc)
    · skip
      refine c_skip ?_
      refine q_block_normal (q_then ?_)
      refine c_region ?_
      refine o_pure (p_addb (p := (k : Int)) (q := 1) rfl rfl (by omega)) rfl rfl rfl ?_
      refine o_pure (p_move (v := .int .i64 ((k : Int) + 1)) rfl) rfl rfl rfl ?_
      refine o_nil ?_
      refine q_round hK1 (k + 1) ?_ ?_ ?_ ?_
      · clear hK1
        refine ⟨by omega, fun j h h2 => ?_⟩
        by_cases e : j = k
        · subst e; assumption
        · exact hI2 j h (by omega)
      · (try dsimp only); omega
      · exact Sub.cons rfl (Sub.cons rfl (Sub.cons rfl (Sub.cons rfl (Sub.nil _))))
      · exact fun _ hw => HeapIs.pick hw [0] (by decide) rfl
  · simp only [decide_eq_false_iff_not, Int.not_lt] at hc2
    refine c_exit ?_
    refine q_then_exit (q_then_exit (q_block_exit (q_then ?_)))
    refine c_seq ?_
    refine c_region ?_
    refine o_pure (p_assign (v := .int .i64 (-1)) rfl) rfl rfl rfl ?_
    refine o_nil ?_
    refine q_then ?_
    refine c_ret ?_
    have hr0 : ((-1) : Int) = (idxF f l) := by
      first | exact idxF_found (by omega) (by assumption) hI2 | exact idxF_none (fun j h => hI2 j h (by omega))
    refine q_end0 (v := .int .i64 (-1)) (rt1 rfl (r_tmp rfl)) (i := 0) rfl ?_
    exact (by have hcc := congrArg (fun (y0 : Int) => (.int .i64 y0 : Value)) hr0; exact hcc)

set_option maxHeartbeats 8000000 in
set_option maxRecDepth 100000 in
theorem delete_Item_ok (l : List DItem) (al : Option Addr) (cl : Nat) (Sl : Nat → Prop) (i : Int) (j : Int) (hy1 : 0 ≤ i ∧ i ≤ j ∧ j ≤ (l.length : Int)) : FnX Try.prog 77 [.slice al l.length cl, .int .i64 i, .int .i64 j] [own tItem Sl al cl l] (fun _ => True) (Option Addr × Nat × (Nat → Prop)) (fun p => .slice p.1 (l.take i.toNat ++ l.drop j.toNat).length p.2.1) (fun p => [own tItem p.2.2 p.1 p.2.1 (l.take i.toNat ++ l.drop j.toNat)]) := by
  refine fnX (nt := 33) (F0 := [(0, .slice al l.length cl), (1, .int .i64 i), (2, .int .i64 j)]) Try.func77 rfl Try.ntmps77 rfl rfl (fun w0 hpre => ?_)
  refine c_know (fun w hw => own_len (i := 1) (T := tItem) hw rfl) (fun hlown_l => ?_)
  obtain ⟨hcown_l, hlown_l⟩ := hlown_l
  refine c_seq ?_
  refine c_region ?_
  refine o_pure (p_assign (v := .slice none 0 0) rfl) rfl rfl rfl ?_
  refine o_nil ?_
  refine q_then ?_
  refine c_seq ?_
  refine c_region ?_
  refine o_pure (p_move (v := .slice al l.length cl) rfl) rfl rfl rfl ?_
  refine o_pure (p_move (v := .int .i64 i) rfl) rfl rfl rfl ?_
  refine o_pure (p_move (v := .int .i64 j) rfl) rfl rfl rfl ?_
  refine o_pure (p_move (v := .slice al l.length cl) rfl) rfl rfl rfl ?_
  refine o_pure (p_len_slice (len := l.length) rfl rfl Try.underlying37) rfl rfl rfl ?_
  refine o_pure (p_sliceLHM (L := l) (T := tItem) (l := i) (h := j) (m := (l.length : Int)) rfl rfl rfl rfl Try.underlying37 sz41 (by omega) (by omega) (by omega) (by omega) (rd_own (i := 1) rfl)) rfl rfl rfl ?_
  refine o_nil ?_
  refine q_then ?_
  refine c_seq ?_
  refine c_seq ?_
  refine c_region ?_
  refine o_pure (p_move (v := .int .i64 i) rfl) rfl rfl rfl ?_
  refine o_pure (p_move (v := .int .i64 j) rfl) rfl rfl rfl ?_
  refine o_pure (p_eq (p := i) (q := j) rfl rfl) rfl rfl rfl ?_
  refine o_nil ?_
  refine q_then ?_
  refine c_cond (b := (i == j)) rfl (fun hc1 => ?_) (fun hc1 => ?_)
  · simp only [beq_iff_eq] at hc1
    refine c_seq ?_
    refine c_region ?_
    refine o_pure (p_move (v := .slice al l.length cl) rfl) rfl rfl rfl ?_
    refine o_pure (p_assign (v := .slice al l.length cl) rfl) rfl rfl rfl ?_
    refine o_nil ?_
    refine q_then ?_
    refine c_ret ?_
    refine q_then_ret ?_
    have hr0 : (l : List DItem) = (l.take i.toNat ++ l.drop j.toNat) := by
      first | rfl | (have hij : i = j := (by assumption); subst hij; exact (List.take_append_drop _ _).symm)
    refine q_endX (p := (al, cl, Sl)) (rt1 rfl (r_tmp rfl)) ?_ (fun w hw => ?_)
    · exact (by have hcc := congrArg (fun (y0 : List DItem) => (.slice al y0.length cl : Value)) hr0; exact hcc)
    · have h2 := hw.pick (H' := [outer w0 [own tItem Sl al cl l], own tItem Sl al cl l]) [0, 1] (by decide) rfl
      exact Eq.mp (congrArg (fun z => HeapIs w0 ((outer w0 [own tItem Sl al cl l]) :: z) w) ((by have hcc := congrArg (fun (y0 : List DItem) => ([own tItem Sl al cl y0] : List Ent)) hr0; exact hcc))) h2
  · simp only [beq_eq_false_iff_ne, ne_eq] at hc1
    refine c_skip ?_
    refine q_then ?_
    refine c_seq ?_
    refine c_region ?_
    refine o_pure (p_move (v := .slice al l.length cl) rfl) rfl rfl rfl ?_
    refine o_pure (p_len_slice (len := l.length) rfl rfl Try.underlying37) rfl rfl rfl ?_
    refine o_pure (p_assign (v := .int .i64 (l.length : Int)) rfl) rfl rfl rfl ?_
    refine o_nil ?_
    refine q_then ?_
    refine c_seq ?_
    refine c_cut (G := Unit) (fun _ => [(0, .slice al ((l.take i.toNat) ++ (l.drop j.toNat)).length cl), (7, .int .i64 (l.length : Int))]) (fun _ => [outer w0 [own tItem Sl al cl l], own tItem Sl al cl ((l.take i.toNat) ++ (l.drop j.toNat))]) (fun K hK3 => ?_) ?_
    · refine c_held hmix [outer w0 [own tItem Sl al cl l]] rfl rfl ?_
      refine h_take (i := 0) (ls := #[true, false, false, false, false, false, false, false]) rfl (by kernel_rfl) (by kernel_rfl) (by kernel_rfl) (fun _ _ _ h => h) (p_move (v := .slice al l.length cl) rfl) rfl rfl rfl (fun _ hw => HeapIs.drop hw (List.Sublist.cons_cons _ (List.Sublist.cons _ (List.Sublist.slnil)))) rfl ?_
      refine h_take (i := 1) (ls := #[true, true, false, false, false, false, false, false]) rfl (by kernel_rfl) (by kernel_rfl) (by kernel_rfl) (fun _ _ _ h => h) (p_move (v := .int .i64 i) rfl) rfl rfl rfl (fun _ hw => HeapIs.drop hw (List.Sublist.cons_cons _ (List.Sublist.cons _ (List.Sublist.slnil)))) rfl ?_
      refine h_take (i := 3) (ls := #[true, true, false, true, false, false, false, false]) rfl (by kernel_rfl) (by kernel_rfl) (by kernel_rfl) (fun _ _ _ h => h) (p_move (v := .slice al l.length cl) rfl) rfl rfl rfl (fun _ hw => HeapIs.drop hw (List.Sublist.cons_cons _ (List.Sublist.cons _ (List.Sublist.slnil)))) rfl ?_
      refine h_take (i := 4) (ls := #[true, true, false, true, true, false, false, false]) rfl (by kernel_rfl) (by kernel_rfl) (by kernel_rfl) (fun _ _ _ h => h) (p_move (v := .int .i64 j) rfl) rfl rfl rfl (fun _ hw => HeapIs.drop hw (List.Sublist.cons_cons _ (List.Sublist.cons _ (List.Sublist.slnil)))) rfl ?_
      refine h_two (i := 2) (j := 5) (ls := #[true, true, true, true, true, false, false, false]) (ls' := #[true, true, false, true, true, true, false, false]) (by kernel_rfl) rfl rfl rfl rfl ?_ ?_
      · refine o_pure (p_sliceH (L := l) (T := tItem) (h := i) rfl rfl Try.underlying37 sz41 (by omega) (by omega) (rd_own (i := 1) rfl)) rfl rfl rfl ?_
        refine o_nil ?_
        refine h_next (fun _ hw => HeapIs.drop hw (List.Sublist.cons_cons _ (List.Sublist.cons _ (List.Sublist.slnil)))) ?_
        refine h_one (i := 5) (ls := #[true, true, true, true, true, true, false, false]) (by kernel_rfl) rfl rfl ?_
        refine o_pure (p_sliceL (L := l) (T := tItem) (l := j) rfl rfl Try.underlying37 sz41 (by omega) (by omega) (rd_own (i := 1) rfl)) rfl rfl rfl ?_
        refine o_nil ?_
        refine h_next (fun _ hw => HeapIs.drop hw (List.Sublist.cons_cons _ (List.Sublist.cons _ (List.Sublist.slnil)))) ?_
        refine h_one (i := 6) (ls := #[true, true, true, true, true, true, true, false]) (by kernel_rfl) rfl rfl ?_
        refine o_appendIn (i := 1) (m := i.toNat) (L := l) (M := (l.drop j.toNat)) (T := tItem) rfl rfl rfl (by omega) (rd_dropC (l := j.toNat) (rd_own (i := 1) rfl) (by omega)) Try.underlying37 Try.underlying37 (by intro k h; cases h) el41 (by intro z; simp [tItem, one1]) (by first | (simp only [List.length_drop]; omega) | (simp; omega)) rfl ?_
        refine o_nil ?_
        refine h_next (fun _ hw => HeapIs.drop hw (List.Sublist.cons_cons _ (List.Sublist.cons _ (List.Sublist.slnil)))) ?_
        refine h_take (i := 7) (ls := #[true, true, true, true, true, true, true, true]) rfl (by kernel_rfl) (by kernel_rfl) (by kernel_rfl) (fun _ _ _ h => h) (p_assign (v := .slice al ((l.take i.toNat) ++ (l.drop j.toNat)).length cl) rfl) rfl rfl rfl (fun _ hw => HeapIs.drop hw (List.Sublist.cons_cons _ (List.Sublist.cons _ (List.Sublist.slnil)))) rfl ?_
        refine h_done (by kernel_rfl) ?_
        refine q_kont hK3 () (Sub.cons rfl (Sub.cons rfl (Sub.nil _))) (fun _ hw => HeapIs.pick hw [0, 1] (by decide) rfl)
      · refine o_pure (p_sliceL (L := l) (T := tItem) (l := j) rfl rfl Try.underlying37 sz41 (by omega) (by omega) (rd_own (i := 1) rfl)) rfl rfl rfl ?_
        refine o_nil ?_
        refine h_next (fun _ hw => HeapIs.drop hw (List.Sublist.cons_cons _ (List.Sublist.cons _ (List.Sublist.slnil)))) ?_
        refine h_one (i := 2) (ls := #[true, true, true, true, true, true, false, false]) (by kernel_rfl) rfl rfl ?_
        refine o_pure (p_sliceH (L := l) (T := tItem) (h := i) rfl rfl Try.underlying37 sz41 (by omega) (by omega) (rd_own (i := 1) rfl)) rfl rfl rfl ?_
        refine o_nil ?_
        refine h_next (fun _ hw => HeapIs.drop hw (List.Sublist.cons_cons _ (List.Sublist.cons _ (List.Sublist.slnil)))) ?_
        refine h_one (i := 6) (ls := #[true, true, true, true, true, true, true, false]) (by kernel_rfl) rfl rfl ?_
        refine o_appendIn (i := 1) (m := i.toNat) (L := l) (M := (l.drop j.toNat)) (T := tItem) rfl rfl rfl (by omega) (rd_dropC (l := j.toNat) (rd_own (i := 1) rfl) (by omega)) Try.underlying37 Try.underlying37 (by intro k h; cases h) el41 (by intro z; simp [tItem, one1]) (by first | (simp only [List.length_drop]; omega) | (simp; omega)) rfl ?_
        refine o_nil ?_
        refine h_next (fun _ hw => HeapIs.drop hw (List.Sublist.cons_cons _ (List.Sublist.cons _ (List.Sublist.slnil)))) ?_
        refine h_take (i := 7) (ls := #[true, true, true, true, true, true, true, true]) rfl (by kernel_rfl) (by kernel_rfl) (by kernel_rfl) (fun _ _ _ h => h) (p_assign (v := .slice al ((l.take i.toNat) ++ (l.drop j.toNat)).length cl) rfl) rfl rfl rfl (fun _ hw => HeapIs.drop hw (List.Sublist.cons_cons _ (List.Sublist.cons _ (List.Sublist.slnil)))) rfl ?_
        refine h_done (by kernel_rfl) ?_
        refine q_kont hK3 () (Sub.cons rfl (Sub.cons rfl (Sub.nil _))) (fun _ hw => HeapIs.pick hw [0, 1] (by decide) rfl)
    rintro _
    show SQ _ 33 w0 _ _ [(0, .slice al ((l.take i.toNat) ++ (l.drop j.toNat)).length cl), (7, .int .i64 (l.length : Int))] [outer w0 [own tItem Sl al cl l], own tItem Sl al cl ((l.take i.toNat) ++ (l.drop j.toNat))]
    refine q_cast (F' := [(0, .slice al ((l.take i.toNat) ++ (l.drop j.toNat)).length cl), (7, .int .i64 (l.length : Int))]) (H := [outer w0 [own tItem Sl al cl l], own tItem Sl al cl ((l.take i.toNat) ++ (l.drop j.toNat))]) (H' := [outer w0 [own tItem Sl al cl l], own tItem Sl al cl ((l.take i.toNat) ++ (l.drop j.toNat))]) (Sub.cons rfl (Sub.cons rfl (Sub.nil _))) (by rfl) ?_
    refine q_then ?_
    refine c_seq ?_
    refine c_region ?_
    refine o_pure (p_move (v := .slice al ((l.take i.toNat) ++ (l.drop j.toNat)).length cl) rfl) rfl rfl rfl ?_
    refine o_pure (p_move (v := .slice al ((l.take i.toNat) ++ (l.drop j.toNat)).length cl) rfl) rfl rfl rfl ?_
    refine o_pure (p_len_slice (len := ((l.take i.toNat) ++ (l.drop j.toNat)).length) rfl rfl Try.underlying37) rfl rfl rfl ?_
    refine o_pure (p_move (v := .int .i64 (l.length : Int)) rfl) rfl rfl rfl ?_
    refine o_pure (p_sliceTail (i := 1) (L := ((l.take i.toNat) ++ (l.drop j.toNat))) (T := tItem) (h := (l.length : Int)) (m := (l.length - (l.take i.toNat ++ l.drop j.toNat).length)) rfl rfl rfl rfl Try.underlying37 sz41 (by simp only [List.length_append, List.length_take, List.length_drop]; omega)) rfl rfl rfl ?_
    refine o_clearTail (i := 1) (T := tItem) (m := (l.length - (l.take i.toNat ++ l.drop j.toNat).length)) rfl rfl rfl Try.underlying37 ze41 rfl rfl (by first | omega | (simp only [List.length_append, List.length_take, List.length_drop]; omega)) ?_
    refine o_nil ?_
    refine q_then ?_
    refine c_seq ?_
    refine c_region ?_
    refine o_pure (p_move (v := .slice al ((l.take i.toNat) ++ (l.drop j.toNat)).length cl) rfl) rfl rfl rfl ?_
    refine o_pure (p_assign (v := .slice al ((l.take i.toNat) ++ (l.drop j.toNat)).length cl) rfl) rfl rfl rfl ?_
    refine o_nil ?_
    refine q_then ?_
    refine c_ret ?_
    have hr0 : (((l.take i.toNat) ++ (l.drop j.toNat)) : List DItem) = (l.take i.toNat ++ l.drop j.toNat) := by
      first | rfl | (have hij : i = j := (by assumption); subst hij; exact (List.take_append_drop _ _).symm)
    refine q_endX (p := (al, cl, Sl)) (rt1 rfl (r_tmp rfl)) ?_ (fun w hw => ?_)
    · exact (by have hcc := congrArg (fun (y0 : List DItem) => (.slice al y0.length cl : Value)) hr0; exact hcc)
    · have h2 := hw.pick (H' := [outer w0 [own tItem Sl al cl l], own tItem Sl al cl ((l.take i.toNat) ++ (l.drop j.toNat))]) [0, 1] (by decide) rfl
      exact Eq.mp (congrArg (fun z => HeapIs w0 ((outer w0 [own tItem Sl al cl l]) :: z) w) ((by have hcc := congrArg (fun (y0 : List DItem) => ([own tItem Sl al cl y0] : List Ent)) hr0; exact hcc))) h2

set_option maxHeartbeats 8000000 in
set_option maxRecDepth 100000 in
theorem gcheck_ok (h : DGreedy) (ah_0 : Option Addr) (ch_0 : Nat) : Fn0 Try.prog 33 [.agg #[.int .i64 h.room, .int .i64 h.floor, .slice ah_0 h.things.length ch_0]] (fun w => Rd tItem w ah_0 ch_0 h.things) (.int .i64 (Greedy.check h)) := by
  refine fn0 (nt := 82) (F0 := [(0, .agg #[.int .i64 h.room, .int .i64 h.floor, .slice ah_0 h.things.length ch_0])]) Try.func33 rfl Try.ntmps33 rfl rfl (fun w0 hpre => ?_)
  have hh_0 := hpre
  have hlhh_0 := hh_0.2.1
  refine c_seq ?_
  refine c_region ?_
  refine o_box (v := .agg #[.int .i64 h.room, .int .i64 h.floor, .slice ah_0 h.things.length ch_0]) rfl rfl (fun B1 => ?_)
  refine o_pure (p_assign (v := .int .i64 0) rfl) rfl rfl rfl ?_
  refine o_nil ?_
  refine q_then ?_
  refine c_seq ?_
  refine c_block ?_
  refine c_seq ?_
  refine c_region ?_
  refine o_pure (p_fieldAddr (B := B1) (j := 0) (j' := 0) rfl fo39_0 rfl) rfl rfl rfl ?_
  refine o_pure (p_load (i := 0) (v := .int .i64 h.room) rfl rfl sh3 rfl) rfl rfl rfl ?_
  refine o_pure (p_lt (p := h.room) (q := 1) rfl rfl) rfl rfl rfl ?_
  refine o_pure (p_move (v := .bool (decide (h.room < 1))) rfl) rfl rfl rfl ?_
  refine o_or (p := 18) 4 (decide (1048576 < h.room)) ?_ ?_ ?_
  · intro hb2 hk
    simp only [decide_eq_false_iff_not, Int.not_lt] at hb2
    refine o_unguard 14 rfl rfl ?_
    refine o_pure (p_fieldAddr (B := B1) (j := 0) (j' := 0) rfl fo39_0 rfl) rfl rfl rfl ?_
    refine o_unguard 14 rfl rfl ?_
    refine o_pure (p_load (i := 0) (v := .int .i64 h.room) rfl rfl sh3 rfl) rfl rfl rfl ?_
    refine o_unguard 14 rfl rfl ?_
    refine o_pure (p_gt (p := h.room) (q := 1048576) rfl rfl) rfl rfl rfl ?_
    refine o_pure (p_pick_false (v := .bool (decide (1048576 < h.room))) rfl rfl) rfl rfl rfl ?_
    exact o_sub (Sub.cons rfl (Sub.skip rfl (Sub.skip rfl (Sub.skip rfl (Sub.skip rfl (Sub.skip rfl (Sub.refl _))))))) hk
  · intro hb2 hk
    refine o_guard_no rfl 14 rfl rfl rfl rfl rfl ?_
    refine o_guard_no rfl 14 rfl rfl rfl rfl rfl ?_
    refine o_guard_no rfl 14 rfl rfl rfl rfl rfl ?_
    refine o_pure (p_pick_true (u := .bool true) rfl rfl) rfl rfl rfl ?_
    exact o_sub (Sub.cons rfl (Sub.skip rfl (Sub.skip rfl (Sub.skip rfl (Sub.skip rfl (Sub.skip rfl (Sub.refl _))))))) hk
  refine o_pure (p_move (v := .bool (decide (h.room < 1) || decide (1048576 < h.room))) rfl) rfl rfl rfl ?_
  refine o_or (p := 23) 4 (decide (h.floor < 0)) ?_ ?_ ?_
  · intro hb3 hk
    simp only [Bool.or_eq_false_iff, decide_eq_false_iff_not, Int.not_lt] at hb3
    refine o_unguard 19 rfl rfl ?_
    refine o_pure (p_fieldAddr (B := B1) (j := 0) (j' := 1) rfl fo39_1 rfl) rfl rfl rfl ?_
    refine o_unguard 19 rfl rfl ?_
    refine o_pure (p_load (i := 0) (v := .int .i64 h.floor) rfl rfl sh3 rfl) rfl rfl rfl ?_
    refine o_unguard 19 rfl rfl ?_
    refine o_pure (p_lt (p := h.floor) (q := 0) rfl rfl) rfl rfl rfl ?_
    refine o_pure (p_pick_false (v := .bool (decide (h.floor < 0))) rfl rfl) rfl rfl rfl ?_
    exact o_sub (Sub.cons rfl (Sub.skip rfl (Sub.skip rfl (Sub.skip rfl (Sub.skip rfl (Sub.skip rfl (Sub.refl _))))))) hk
  · intro hb3 hk
    refine o_guard_no rfl 19 rfl rfl rfl rfl rfl ?_
    refine o_guard_no rfl 19 rfl rfl rfl rfl rfl ?_
    refine o_guard_no rfl 19 rfl rfl rfl rfl rfl ?_
    refine o_pure (p_pick_true (u := .bool true) rfl rfl) rfl rfl rfl ?_
    exact o_sub (Sub.cons rfl (Sub.skip rfl (Sub.skip rfl (Sub.skip rfl (Sub.skip rfl (Sub.skip rfl (Sub.refl _))))))) hk
  refine o_pure (p_move (v := .bool ((decide (h.room < 1) || decide (1048576 < h.room)) || decide (h.floor < 0))) rfl) rfl rfl rfl ?_
  refine o_or (p := 28) 4 (decide (1125899906842624 < h.floor)) ?_ ?_ ?_
  · intro hb4 hk
    simp only [Bool.or_eq_false_iff, decide_eq_false_iff_not, Int.not_lt] at hb4
    refine o_unguard 24 rfl rfl ?_
    refine o_pure (p_fieldAddr (B := B1) (j := 0) (j' := 1) rfl fo39_1 rfl) rfl rfl rfl ?_
    refine o_unguard 24 rfl rfl ?_
    refine o_pure (p_load (i := 0) (v := .int .i64 h.floor) rfl rfl sh3 rfl) rfl rfl rfl ?_
    refine o_unguard 24 rfl rfl ?_
    refine o_pure (p_gt (p := h.floor) (q := 1125899906842624) rfl rfl) rfl rfl rfl ?_
    refine o_pure (p_pick_false (v := .bool (decide (1125899906842624 < h.floor))) rfl rfl) rfl rfl rfl ?_
    exact o_sub (Sub.cons rfl (Sub.skip rfl (Sub.skip rfl (Sub.skip rfl (Sub.skip rfl (Sub.skip rfl (Sub.refl _))))))) hk
  · intro hb4 hk
    refine o_guard_no rfl 24 rfl rfl rfl rfl rfl ?_
    refine o_guard_no rfl 24 rfl rfl rfl rfl rfl ?_
    refine o_guard_no rfl 24 rfl rfl rfl rfl rfl ?_
    refine o_pure (p_pick_true (u := .bool true) rfl rfl) rfl rfl rfl ?_
    exact o_sub (Sub.cons rfl (Sub.skip rfl (Sub.skip rfl (Sub.skip rfl (Sub.skip rfl (Sub.skip rfl (Sub.refl _))))))) hk
  refine o_pure (p_assign (v := .bool (((decide (h.room < 1) || decide (1048576 < h.room)) || decide (h.floor < 0)) || decide (1125899906842624 < h.floor))) rfl) rfl rfl rfl ?_
  refine o_nil ?_
  refine q_then ?_
  refine c_cond (b := (((decide (h.room < 1) || decide (1048576 < h.room)) || decide (h.floor < 0)) || decide (1125899906842624 < h.floor))) rfl (fun hc5 => ?_) (fun hc5 => ?_)
  · simp only [Bool.or_eq_true, decide_eq_true_eq] at hc5
    refine c_seq ?_
    refine c_region ?_
    refine o_pure (p_assign (v := .int .i64 3) rfl) rfl rfl rfl ?_
    refine o_nil ?_
    refine q_then ?_
    refine c_ret ?_
    refine q_block_ret (q_then_ret ?_)
    try have hdone := hI.done (by omega)
    have hr0 : (3 : Int) = (Greedy.check h) := by
      first | exact Greedy.chk_range (by assumption) | exact Greedy.chk_many (by assumption) (by assumption) | exact Greedy.chk_items (by assumption) (by omega) (hI.bad (by omega) (by assumption)) (by decide) | exact Greedy.chk_items (by assumption) (by omega) (hI.twice (by omega) (by assumption) (by assumption)) (by decide) | exact Greedy.chk_full (by assumption) (by omega) hdone.1 (by omega) | exact Greedy.chk_fine (by assumption) (by omega) hdone.1 (by omega)
    refine q_end0 (v := .int .i64 3) (rt1 rfl (r_tmp rfl)) (i := 1) rfl ?_
    exact (by have hcc := congrArg (fun (y0 : Int) => (.int .i64 y0 : Value)) hr0; exact hcc)
  · simp only [Bool.or_eq_false_iff, decide_eq_false_iff_not, Int.not_lt] at hc5
    refine c_seq ?_
    refine c_region ?_
    refine o_pure (p_fieldAddr (B := B1) (j := 0) (j' := 2) rfl fo39_2 rfl) rfl rfl rfl ?_
    refine o_pure (p_load (i := 0) (v := .slice ah_0 h.things.length ch_0) rfl rfl sh37 rfl) rfl rfl rfl ?_
    refine o_pure (p_len_slice (len := h.things.length) rfl rfl Try.underlying37) rfl rfl rfl ?_
    refine o_pure (p_gt (p := (h.things.length : Int)) (q := 40) rfl rfl) rfl rfl rfl ?_
    refine o_pure (p_assign (v := .bool (decide (40 < (h.things.length : Int)))) rfl) rfl rfl rfl ?_
    refine o_nil ?_
    refine q_then ?_
    refine c_cond (b := decide (40 < (h.things.length : Int))) rfl (fun hc6 => ?_) (fun hc6 => ?_)
    · simp only [decide_eq_true_eq] at hc6
      refine c_seq ?_
      refine c_region ?_
      refine o_pure (p_assign (v := .int .i64 2) rfl) rfl rfl rfl ?_
      refine o_nil ?_
      refine q_then ?_
      refine c_ret ?_
      refine q_block_ret (q_then_ret ?_)
      try have hdone := hI.done (by omega)
      have hr0 : (2 : Int) = (Greedy.check h) := by
        first | exact Greedy.chk_range (by assumption) | exact Greedy.chk_many (by assumption) (by assumption) | exact Greedy.chk_items (by assumption) (by omega) (hI.bad (by omega) (by assumption)) (by decide) | exact Greedy.chk_items (by assumption) (by omega) (hI.twice (by omega) (by assumption) (by assumption)) (by decide) | exact Greedy.chk_full (by assumption) (by omega) hdone.1 (by omega) | exact Greedy.chk_fine (by assumption) (by omega) hdone.1 (by omega)
      refine q_end0 (v := .int .i64 2) (rt1 rfl (r_tmp rfl)) (i := 1) rfl ?_
      exact (by have hcc := congrArg (fun (y0 : Int) => (.int .i64 y0 : Value)) hr0; exact hcc)
    · simp only [decide_eq_false_iff_not, Int.not_lt] at hc6
      refine c_skip ?_
      refine q_block_normal (q_then ?_)
      refine c_seq ?_
      refine c_region ?_
      refine o_makeMap (ν := Unit) kInt (fun _ => .agg #[]) rfl (fun B7 => ?_)
      refine o_pure (p_assign (v := .map (some B7)) rfl) rfl rfl rfl ?_
      refine o_nil ?_
      refine q_then ?_
      refine c_seq ?_
      refine c_seq ?_
      refine c_region ?_
      refine o_pure (p_fieldAddr (B := B1) (j := 0) (j' := 2) rfl fo39_2 rfl) rfl rfl rfl ?_
      refine o_pure (p_load (i := 1) (v := .slice ah_0 h.things.length ch_0) rfl rfl sh37 rfl) rfl rfl rfl ?_
      refine o_pure (p_len_slice (len := h.things.length) rfl rfl Try.underlying37) rfl rfl rfl ?_
      refine o_pure (p_move (v := .int .i64 0) rfl) rfl rfl rfl ?_
      refine o_nil ?_
      refine q_then ?_
      refine c_block ?_
      refine c_loop (St := Nat × List (Int × Unit))
        (fun ⟨k, m⟩ => [(1, .pointer (some ⟨B1, 0, none⟩)), (3, .map (some B7)), (36, .slice ah_0 h.things.length ch_0), (37, .int .i64 (h.things.length : Int)), (38, .int .i64 (k : Int))])
        (fun ⟨k, m⟩ => [mapE kInt (fun _ => .agg #[]) B7 m, box B1 [.int .i64 h.room, .int .i64 h.floor, .slice ah_0 h.things.length ch_0] 39, base w0])
        (fun ⟨k, m⟩ => Greedy.CInv h.floor h.things k m)
        (fun ⟨k, m⟩ => h.things.length - k)
        (0, []) ?_ (Sub.cons rfl (Sub.cons rfl (Sub.cons rfl (Sub.cons rfl (Sub.cons rfl (Sub.nil _)))))) (fun _ hw => hw) ?_
      · exact Greedy.CInv.start _ _
      rintro ⟨k, m⟩ hI K hK8
      show SC _ _ Try.prog 82 w0 _ _ [(1, .pointer (some ⟨B1, 0, none⟩)), (3, .map (some B7)), (36, .slice ah_0 h.things.length ch_0), (37, .int .i64 (h.things.length : Int)), (38, .int .i64 (k : Int))] [mapE kInt (fun _ => .agg #[]) B7 m, box B1 [.int .i64 h.room, .int .i64 h.floor, .slice ah_0 h.things.length ch_0] 39, base w0]
      refine c_seq ?_
      refine c_region ?_
      refine o_pure (p_lt (p := (k : Int)) (q := (h.things.length : Int)) rfl rfl) rfl rfl rfl ?_
      refine o_nil ?_
      refine q_then ?_
      refine c_seq ?_
      refine c_cond (b := decide ((k : Int) < (h.things.length : Int))) rfl (fun hc9 => ?_) (fun hc9 => ?_)
      · simp only [decide_eq_true_eq] at hc9
        refine c_skip ?_
        refine q_then ?_
        refine c_seq ?_
        refine c_block ?_
        refine c_seq ?_
        refine c_region ?_
        refine o_pure (p_indexAddr (L := h.things) (T := tItem) (i := (k : Int)) rfl rfl (rd_base (i := 2) rfl hh_0) Try.underlying37 sz41 (by omega) (by omega)) rfl rfl rfl ?_
        refine o_pure (p_loadEn (i := k) (T := tItem) (L := h.things) (vs := [.int .i64 ((h.things[k]).key), .int .i64 ((h.things[k]).size), .int .i64 ((h.things[k]).cost), .int .i64 ((h.things[k]).worth)]) rfl (rd_base (i := 2) rfl hh_0) (by first | assumption | omega) sh41 rfl) rfl rfl rfl ?_
        refine o_alloc ze41 rfl (fun B10 => ?_)
        refine o_storeN (i := 0) (vs := [.int .i64 ((h.things[k]).key), .int .i64 ((h.things[k]).size), .int .i64 ((h.things[k]).cost), .int .i64 ((h.things[k]).worth)]) (cs' := [.int .i64 ((h.things[k]).key), .int .i64 ((h.things[k]).size), .int .i64 ((h.things[k]).cost), .int .i64 ((h.things[k]).worth)]) rfl rfl rfl sz41 rfl rfl rfl rfl ?_
        refine o_nil ?_
        refine q_then ?_
        refine c_seq ?_
        refine c_region ?_
        refine o_pure (p_move (v := .map (some B7)) rfl) rfl rfl rfl ?_
        refine o_pure (p_fieldAddr (B := B10) (j := 0) (j' := 0) rfl fo41_0 rfl) rfl rfl rfl ?_
        refine o_pure (p_load (i := 0) (v := .int .i64 ((h.things[k]).key)) rfl rfl sh3 rfl) rfl rfl rfl ?_
        refine o_pure (p_lookup2 (i := 1) (K := kInt) (ve := (fun _ => .agg #[])) (m := m) (k := (h.things[k]).key) (dflt := ()) rfl rfl rfl Try.underlying114 Try.underlying3 zv115) rfl rfl rfl ?_
        refine o_pure (p_move (v := .tuple #[.agg #[], .bool ((AL.get m ((h.things[k]).key)).isSome)]) rfl) rfl rfl rfl ?_
        refine o_pure (p_extract (vs := [.agg #[], .bool ((AL.get m ((h.things[k]).key)).isSome)]) (v := .agg #[]) rfl rfl) rfl rfl rfl ?_
        refine o_pure (p_extract (vs := [.agg #[], .bool ((AL.get m ((h.things[k]).key)).isSome)]) (v := .bool ((AL.get m ((h.things[k]).key)).isSome)) rfl rfl) rfl rfl rfl ?_
        refine o_alloc ze115 rfl (fun B11 => ?_)
        refine o_storeN (i := 0) (vs := []) (cs' := []) rfl rfl rfl sz115 rfl rfl rfl rfl ?_
        refine o_pure (p_assign (v := .bool ((AL.get m ((h.things[k]).key)).isSome)) rfl) rfl rfl rfl ?_
        refine o_nil ?_
        refine q_then ?_
        refine c_seq ?_
        refine c_block ?_
        refine c_seq ?_
        refine c_region ?_
        refine o_pure (p_load_agg (i := 1) (vs := [.int .i64 ((h.things[k]).key), .int .i64 ((h.things[k]).size), .int .i64 ((h.things[k]).cost), .int .i64 ((h.things[k]).worth)]) rfl rfl sh41 rfl rfl) rfl rfl rfl ?_
        refine o_call0 (v := .bool (Greedy.right (h.things[k]))) rfl (right_ok (h.things[k])) hf70 (fun _ _ => trivial) rfl ?_
        refine o_pure (p_not (b := (Greedy.right (h.things[k]))) rfl) rfl rfl rfl ?_
        refine o_pure (p_move (v := .bool (!(Greedy.right (h.things[k])))) rfl) rfl rfl rfl ?_
        refine o_or (p := 59) 6 (decide ((h.things[k]).worth < h.floor)) ?_ ?_ ?_
        · intro hb12 hk
          simp only [Bool.not_eq_false'] at hb12
          refine o_unguard 53 rfl rfl ?_
          refine o_pure (p_fieldAddr (B := B10) (j := 0) (j' := 3) rfl fo41_3 rfl) rfl rfl rfl ?_
          refine o_unguard 53 rfl rfl ?_
          refine o_pure (p_load (i := 1) (v := .int .i64 ((h.things[k]).worth)) rfl rfl sh3 rfl) rfl rfl rfl ?_
          refine o_unguard 53 rfl rfl ?_
          refine o_pure (p_fieldAddr (B := B1) (j := 0) (j' := 1) rfl fo39_1 rfl) rfl rfl rfl ?_
          refine o_unguard 53 rfl rfl ?_
          refine o_pure (p_load (i := 3) (v := .int .i64 h.floor) rfl rfl sh3 rfl) rfl rfl rfl ?_
          refine o_unguard 53 rfl rfl ?_
          refine o_pure (p_lt (p := (h.things[k]).worth) (q := h.floor) rfl rfl) rfl rfl rfl ?_
          refine o_pure (p_pick_false (v := .bool (decide ((h.things[k]).worth < h.floor))) rfl rfl) rfl rfl rfl ?_
          exact o_sub (Sub.cons rfl (Sub.skip rfl (Sub.skip rfl (Sub.skip rfl (Sub.skip rfl (Sub.skip rfl (Sub.skip rfl (Sub.skip rfl (Sub.refl _))))))))) hk
        · intro hb12 hk
          refine o_guard_no rfl 53 rfl rfl rfl rfl rfl ?_
          refine o_guard_no rfl 53 rfl rfl rfl rfl rfl ?_
          refine o_guard_no rfl 53 rfl rfl rfl rfl rfl ?_
          refine o_guard_no rfl 53 rfl rfl rfl rfl rfl ?_
          refine o_guard_no rfl 53 rfl rfl rfl rfl rfl ?_
          refine o_pure (p_pick_true (u := .bool true) rfl rfl) rfl rfl rfl ?_
          exact o_sub (Sub.cons rfl (Sub.skip rfl (Sub.skip rfl (Sub.skip rfl (Sub.skip rfl (Sub.skip rfl (Sub.skip rfl (Sub.skip rfl (Sub.refl _))))))))) hk
        refine o_pure (p_move (v := .bool ((!(Greedy.right (h.things[k]))) || decide ((h.things[k]).worth < h.floor))) rfl) rfl rfl rfl ?_
        refine o_or (p := 64) 4 (decide (1125899906842624 < (h.things[k]).worth)) ?_ ?_ ?_
        · intro hb13 hk
          simp only [Bool.or_eq_false_iff, Bool.not_eq_false', decide_eq_false_iff_not, Int.not_lt] at hb13
          refine o_unguard 60 rfl rfl ?_
          refine o_pure (p_fieldAddr (B := B10) (j := 0) (j' := 3) rfl fo41_3 rfl) rfl rfl rfl ?_
          refine o_unguard 60 rfl rfl ?_
          refine o_pure (p_load (i := 1) (v := .int .i64 ((h.things[k]).worth)) rfl rfl sh3 rfl) rfl rfl rfl ?_
          refine o_unguard 60 rfl rfl ?_
          refine o_pure (p_gt (p := (h.things[k]).worth) (q := 1125899906842624) rfl rfl) rfl rfl rfl ?_
          refine o_pure (p_pick_false (v := .bool (decide (1125899906842624 < (h.things[k]).worth))) rfl rfl) rfl rfl rfl ?_
          exact o_sub (Sub.cons rfl (Sub.skip rfl (Sub.skip rfl (Sub.skip rfl (Sub.skip rfl (Sub.skip rfl (Sub.refl _))))))) hk
        · intro hb13 hk
          refine o_guard_no rfl 60 rfl rfl rfl rfl rfl ?_
          refine o_guard_no rfl 60 rfl rfl rfl rfl rfl ?_
          refine o_guard_no rfl 60 rfl rfl rfl rfl rfl ?_
          refine o_pure (p_pick_true (u := .bool true) rfl rfl) rfl rfl rfl ?_
          exact o_sub (Sub.cons rfl (Sub.skip rfl (Sub.skip rfl (Sub.skip rfl (Sub.skip rfl (Sub.skip rfl (Sub.refl _))))))) hk
        refine o_pure (p_assign (v := .bool (((!(Greedy.right (h.things[k]))) || decide ((h.things[k]).worth < h.floor)) || decide (1125899906842624 < (h.things[k]).worth))) rfl) rfl rfl rfl ?_
        refine o_nil ?_
        refine q_then ?_
        refine c_cond (b := (((!(Greedy.right (h.things[k]))) || decide ((h.things[k]).worth < h.floor)) || decide (1125899906842624 < (h.things[k]).worth))) rfl (fun hc14 => ?_) (fun hc14 => ?_)
        · simp only [Bool.or_eq_true, Bool.not_eq_true', decide_eq_true_eq] at hc14
          refine c_seq ?_
          refine c_region ?_
          refine o_pure (p_assign (v := .int .i64 3) rfl) rfl rfl rfl ?_
          refine o_nil ?_
          refine q_then ?_
          refine c_ret ?_
          refine q_block_ret (q_then_ret (q_block_ret (q_then_ret (q_then_ret (q_block_ret (q_then_ret ?_))))))
          try have hdone := hI.done (by omega)
          have hr0 : (3 : Int) = (Greedy.check h) := by
            first | exact Greedy.chk_range (by assumption) | exact Greedy.chk_many (by assumption) (by assumption) | exact Greedy.chk_items (by assumption) (by omega) (hI.bad (by omega) (by assumption)) (by decide) | exact Greedy.chk_items (by assumption) (by omega) (hI.twice (by omega) (by assumption) (by assumption)) (by decide) | exact Greedy.chk_full (by assumption) (by omega) hdone.1 (by omega) | exact Greedy.chk_fine (by assumption) (by omega) hdone.1 (by omega)
          refine q_end0 (v := .int .i64 3) (rt1 rfl (r_tmp rfl)) (i := 4) rfl ?_
          exact (by have hcc := congrArg (fun (y0 : Int) => (.int .i64 y0 : Value)) hr0; exact hcc)
        · simp only [Bool.or_eq_false_iff, Bool.not_eq_false', decide_eq_false_iff_not, Int.not_lt] at hc14
          refine c_seq ?_
          refine c_region ?_
          refine o_pure (p_move (v := .bool ((AL.get m ((h.things[k]).key)).isSome)) rfl) rfl rfl rfl ?_
          refine o_pure (p_assign (v := .bool ((AL.get m ((h.things[k]).key)).isSome)) rfl) rfl rfl rfl ?_
          refine o_nil ?_
          refine q_then ?_
          refine c_cond (b := (AL.get m ((h.things[k]).key)).isSome) rfl (fun hc15 => ?_) (fun hc15 => ?_)
          · skip
            refine c_seq ?_
            refine c_region ?_
            refine o_pure (p_assign (v := .int .i64 6) rfl) rfl rfl rfl ?_
            refine o_nil ?_
            refine q_then ?_
            refine c_ret ?_
            refine q_block_ret (q_then_ret (q_block_ret (q_then_ret (q_then_ret (q_block_ret (q_then_ret ?_))))))
            try have hdone := hI.done (by omega)
            have hr0 : (6 : Int) = (Greedy.check h) := by
              first | exact Greedy.chk_range (by assumption) | exact Greedy.chk_many (by assumption) (by assumption) | exact Greedy.chk_items (by assumption) (by omega) (hI.bad (by omega) (by assumption)) (by decide) | exact Greedy.chk_items (by assumption) (by omega) (hI.twice (by omega) (by assumption) (by assumption)) (by decide) | exact Greedy.chk_full (by assumption) (by omega) hdone.1 (by omega) | exact Greedy.chk_fine (by assumption) (by omega) hdone.1 (by omega)
            refine q_end0 (v := .int .i64 6) (rt1 rfl (r_tmp rfl)) (i := 4) rfl ?_
            exact (by have hcc := congrArg (fun (y0 : Int) => (.int .i64 y0 : Value)) hr0; exact hcc)
          · skip
            refine c_skip ?_
            refine q_block_normal (q_then ?_)
            refine c_region ?_
            refine o_pure (p_move (v := .map (some B7)) rfl) rfl rfl rfl ?_
            refine o_pure (p_fieldAddr (B := B10) (j := 0) (j' := 0) rfl fo41_0 rfl) rfl rfl rfl ?_
            refine o_pure (p_load (i := 1) (v := .int .i64 ((h.things[k]).key)) rfl rfl sh3 rfl) rfl rfl rfl ?_
            refine o_pure (p_build (cells := []) fp115 ze115 rfl rfl) rfl rfl rfl ?_
            refine o_mapUpdate (i := 2) (K := kInt) (ve := (fun _ => .agg #[])) (m := m) (k := (h.things[k]).key) (v := ()) rfl rfl rfl rfl Try.underlying114 Try.underlying3 ?_
            refine o_nil ?_
            refine q_block_normal (q_then ?_)
            refine c_region ?_
            refine o_pure (p_addb (p := (k : Int)) (q := 1) rfl rfl (by omega)) rfl rfl rfl ?_
            refine o_pure (p_move (v := .int .i64 ((k : Int) + 1)) rfl) rfl rfl rfl ?_
            refine o_nil ?_
            refine q_round hK8 (k + 1, (AL.set m ((h.things[k]).key) ())) ?_ ?_ ?_ ?_
            · clear hK8
              exact hI.next (by omega) (by assumption) (by assumption)
            · (try dsimp only); omega
            · exact Sub.cons rfl (Sub.cons rfl (Sub.cons rfl (Sub.cons rfl (Sub.cons rfl (Sub.nil _)))))
            · exact fun _ hw => HeapIs.pick hw [2, 3, 4] (by decide) rfl
      · simp only [decide_eq_false_iff_not, Int.not_lt] at hc9
        have hdone := hI.done (by omega)
        have hfine : Greedy.Fine h.things := ⟨by omega, hdone.2⟩
        refine c_exit ?_
        refine q_then_exit (q_then_exit (q_block_exit (q_then ?_)))
        refine c_seq ?_
        refine c_seq ?_
        refine c_region ?_
        refine o_pure (p_fieldAddr (B := B1) (j := 0) (j' := 2) rfl fo39_2 rfl) rfl rfl rfl ?_
        refine o_pure (p_load (i := 1) (v := .slice ah_0 h.things.length ch_0) rfl rfl sh37 rfl) rfl rfl rfl ?_
        refine o_call0 (v := .tuple #[.int .i64 (Greedy.sizes h.things), .int .i64 (Greedy.costs h.things)]) rfl (sums_ok h.things ah_0 ch_0 (by first | assumption | exact hok.fine | exact hy1.fine | exact (hI.fits).fine | exact Greedy.Fine.of_done hdone (by omega))) hf75 (fun w hw => (rd_base (i := 2) rfl hh_0) w hw) rfl ?_
        refine o_pure (p_move (v := .tuple #[.int .i64 (Greedy.sizes h.things), .int .i64 (Greedy.costs h.things)]) rfl) rfl rfl rfl ?_
        refine o_pure (p_extract (vs := [.int .i64 (Greedy.sizes h.things), .int .i64 (Greedy.costs h.things)]) (v := .int .i64 (Greedy.sizes h.things)) rfl rfl) rfl rfl rfl ?_
        refine o_pure (p_extract (vs := [.int .i64 (Greedy.sizes h.things), .int .i64 (Greedy.costs h.things)]) (v := .int .i64 (Greedy.costs h.things)) rfl rfl) rfl rfl rfl ?_
        refine o_pure (p_assign (v := .int .i64 (Greedy.sizes h.things)) rfl) rfl rfl rfl ?_
        refine o_pure (p_assign (v := .int .i64 (Greedy.costs h.things)) rfl) rfl rfl rfl ?_
        refine o_nil ?_
        refine q_then ?_
        refine c_seq ?_
        refine c_region ?_
        refine o_pure (p_move (v := .int .i64 (Greedy.sizes h.things)) rfl) rfl rfl rfl ?_
        refine o_pure (p_fieldAddr (B := B1) (j := 0) (j' := 0) rfl fo39_0 rfl) rfl rfl rfl ?_
        refine o_pure (p_load (i := 1) (v := .int .i64 h.room) rfl rfl sh3 rfl) rfl rfl rfl ?_
        refine o_pure (p_gt (p := (Greedy.sizes h.things)) (q := h.room) rfl rfl) rfl rfl rfl ?_
        refine o_nil ?_
        refine q_then ?_
        refine c_cond (b := decide (h.room < (Greedy.sizes h.things))) rfl (fun hc16 => ?_) (fun hc16 => ?_)
        · simp only [decide_eq_true_eq] at hc16
          refine c_seq ?_
          refine c_region ?_
          refine o_pure (p_assign (v := .int .i64 8) rfl) rfl rfl rfl ?_
          refine o_nil ?_
          refine q_then ?_
          refine c_ret ?_
          refine q_then_ret ?_
          try have hdone := hI.done (by omega)
          have hr0 : (8 : Int) = (Greedy.check h) := by
            first | exact Greedy.chk_range (by assumption) | exact Greedy.chk_many (by assumption) (by assumption) | exact Greedy.chk_items (by assumption) (by omega) (hI.bad (by omega) (by assumption)) (by decide) | exact Greedy.chk_items (by assumption) (by omega) (hI.twice (by omega) (by assumption) (by assumption)) (by decide) | exact Greedy.chk_full (by assumption) (by omega) hdone.1 (by omega) | exact Greedy.chk_fine (by assumption) (by omega) hdone.1 (by omega)
          refine q_end0 (v := .int .i64 8) (rt1 rfl (r_tmp rfl)) (i := 2) rfl ?_
          exact (by have hcc := congrArg (fun (y0 : Int) => (.int .i64 y0 : Value)) hr0; exact hcc)
        · simp only [decide_eq_false_iff_not, Int.not_lt] at hc16
          refine c_skip ?_
          refine q_then ?_
          refine c_seq ?_
          refine c_region ?_
          refine o_pure (p_assign (v := .int .i64 0) rfl) rfl rfl rfl ?_
          refine o_nil ?_
          refine q_then ?_
          refine c_ret ?_
          try have hdone := hI.done (by omega)
          have hr0 : (0 : Int) = (Greedy.check h) := by
            first | exact Greedy.chk_range (by assumption) | exact Greedy.chk_many (by assumption) (by assumption) | exact Greedy.chk_items (by assumption) (by omega) (hI.bad (by omega) (by assumption)) (by decide) | exact Greedy.chk_items (by assumption) (by omega) (hI.twice (by omega) (by assumption) (by assumption)) (by decide) | exact Greedy.chk_full (by assumption) (by omega) hdone.1 (by omega) | exact Greedy.chk_fine (by assumption) (by omega) hdone.1 (by omega)
          refine q_end0 (v := .int .i64 0) (rt1 rfl (r_tmp rfl)) (i := 2) rfl ?_
          exact (by have hcc := congrArg (fun (y0 : Int) => (.int .i64 y0 : Value)) hr0; exact hcc)

set_option maxHeartbeats 8000000 in
set_option maxRecDepth 100000 in
theorem total_ok (h : DGreedy) (ah_0 : Option Addr) (ch_0 : Nat) : Fn0 Try.prog 25 [.agg #[.int .i64 h.room, .int .i64 h.floor, .slice ah_0 h.things.length ch_0]] (fun w => Rd tItem w ah_0 ch_0 h.things) (.tuple #[.int .i64 ((Greedy.total h).1), .int .i64 ((Greedy.total h).2), .int .i64 (Greedy.check h)]) := by
  refine fn0 (nt := 21) (F0 := [(0, .agg #[.int .i64 h.room, .int .i64 h.floor, .slice ah_0 h.things.length ch_0])]) Try.func25 rfl Try.ntmps25 rfl rfl (fun w0 hpre => ?_)
  have hh_0 := hpre
  have hlhh_0 := hh_0.2.1
  refine c_seq ?_
  refine c_region ?_
  refine o_box (v := .agg #[.int .i64 h.room, .int .i64 h.floor, .slice ah_0 h.things.length ch_0]) rfl rfl (fun B1 => ?_)
  refine o_pure (p_assign (v := .int .i64 0) rfl) rfl rfl rfl ?_
  refine o_pure (p_assign (v := .int .i64 0) rfl) rfl rfl rfl ?_
  refine o_pure (p_assign (v := .int .i64 0) rfl) rfl rfl rfl ?_
  refine o_nil ?_
  refine q_then ?_
  refine c_seq ?_
  refine c_seq ?_
  refine c_region ?_
  refine o_pure (p_load_agg (i := 0) (vs := [.int .i64 h.room, .int .i64 h.floor, .slice ah_0 h.things.length ch_0]) rfl rfl sh39 rfl rfl) rfl rfl rfl ?_
  refine o_call0 (v := .int .i64 (Greedy.check h)) rfl (gcheck_ok h ah_0 ch_0) hf33 (fun w hw => (rd_base (i := 1) rfl hh_0) w hw) rfl ?_
  refine o_pure (p_assign (v := .int .i64 (Greedy.check h)) rfl) rfl rfl rfl ?_
  refine o_nil ?_
  refine q_then ?_
  refine c_seq ?_
  refine c_region ?_
  refine o_pure (p_move (v := .int .i64 (Greedy.check h)) rfl) rfl rfl rfl ?_
  refine o_pure (p_ne (p := (Greedy.check h)) (q := 0) rfl rfl) rfl rfl rfl ?_
  refine o_nil ?_
  refine q_then ?_
  refine c_cond (b := ((Greedy.check h) != 0)) rfl (fun hc2 => ?_) (fun hc2 => ?_)
  · simp only [bne_iff_ne, ne_eq] at hc2
    refine c_seq ?_
    refine c_region ?_
    refine o_pure (p_move (v := .int .i64 (Greedy.check h)) rfl) rfl rfl rfl ?_
    refine o_pure (p_assign (v := .int .i64 0) rfl) rfl rfl rfl ?_
    refine o_pure (p_assign (v := .int .i64 0) rfl) rfl rfl rfl ?_
    refine o_pure (p_assign (v := .int .i64 (Greedy.check h)) rfl) rfl rfl rfl ?_
    refine o_nil ?_
    refine q_then ?_
    refine c_ret ?_
    refine q_then_ret ?_
    have hr0 : (0 : Int) = ((Greedy.total h).1) := by
      first | (rw [Greedy.tot_ok (by assumption)]; done) | (rw [Greedy.tot_bad (by assumption)]; done) | (symm; assumption)
    have hr1 : (0 : Int) = ((Greedy.total h).2) := by
      first | (rw [Greedy.tot_ok (by assumption)]; done) | (rw [Greedy.tot_bad (by assumption)]; done) | (symm; assumption)
    refine q_end0 (v := .tuple #[.int .i64 0, .int .i64 0, .int .i64 (Greedy.check h)]) (rt3 rfl (r_tmp rfl) (r_tmp rfl) (r_tmp rfl)) (i := 1) rfl ?_
    exact (by have hcc := congr (congrArg (fun (y0 : Int) (y1 : Int) => (.tuple #[.int .i64 y0, .int .i64 y1, .int .i64 (Greedy.check h)] : Value)) hr0) hr1; exact hcc)
  · simp only [bne_eq_false_iff_eq] at hc2
    have hok := Greedy.check_ok.1 hc2
    refine c_skip ?_
    refine q_then ?_
    refine c_seq ?_
    refine c_region ?_
    refine o_pure (p_fieldAddr (B := B1) (j := 0) (j' := 2) rfl fo39_2 rfl) rfl rfl rfl ?_
    refine o_pure (p_load (i := 0) (v := .slice ah_0 h.things.length ch_0) rfl rfl sh37 rfl) rfl rfl rfl ?_
    refine o_call0 (v := .tuple #[.int .i64 (Greedy.sizes h.things), .int .i64 (Greedy.costs h.things)]) rfl (sums_ok h.things ah_0 ch_0 (by first | assumption | exact hok.fine | exact hy1.fine | exact (hI.fits).fine | exact Greedy.Fine.of_done hdone (by omega))) hf75 (fun w hw => (rd_base (i := 1) rfl hh_0) w hw) rfl ?_
    refine o_pure (p_move (v := .tuple #[.int .i64 (Greedy.sizes h.things), .int .i64 (Greedy.costs h.things)]) rfl) rfl rfl rfl ?_
    refine o_pure (p_extract (vs := [.int .i64 (Greedy.sizes h.things), .int .i64 (Greedy.costs h.things)]) (v := .int .i64 (Greedy.sizes h.things)) rfl rfl) rfl rfl rfl ?_
    refine o_pure (p_extract (vs := [.int .i64 (Greedy.sizes h.things), .int .i64 (Greedy.costs h.things)]) (v := .int .i64 (Greedy.costs h.things)) rfl rfl) rfl rfl rfl ?_
    refine o_pure (p_assign (v := .int .i64 (Greedy.sizes h.things)) rfl) rfl rfl rfl ?_
    refine o_pure (p_assign (v := .int .i64 (Greedy.costs h.things)) rfl) rfl rfl rfl ?_
    refine o_nil ?_
    refine q_then ?_
    refine c_seq ?_
    refine c_region ?_
    refine o_pure (p_move (v := .int .i64 (Greedy.sizes h.things)) rfl) rfl rfl rfl ?_
    refine o_pure (p_move (v := .int .i64 (Greedy.costs h.things)) rfl) rfl rfl rfl ?_
    refine o_pure (p_assign (v := .int .i64 (Greedy.sizes h.things)) rfl) rfl rfl rfl ?_
    refine o_pure (p_assign (v := .int .i64 (Greedy.costs h.things)) rfl) rfl rfl rfl ?_
    refine o_pure (p_assign (v := .int .i64 0) rfl) rfl rfl rfl ?_
    refine o_nil ?_
    refine q_then ?_
    refine c_ret ?_
    have hr0 : ((Greedy.sizes h.things) : Int) = ((Greedy.total h).1) := by
      first | (rw [Greedy.tot_ok (by assumption)]; done) | (rw [Greedy.tot_bad (by assumption)]; done) | (symm; assumption)
    have hr1 : ((Greedy.costs h.things) : Int) = ((Greedy.total h).2) := by
      first | (rw [Greedy.tot_ok (by assumption)]; done) | (rw [Greedy.tot_bad (by assumption)]; done) | (symm; assumption)
    have hr2 : (0 : Int) = (Greedy.check h) := by
      first | (rw [Greedy.tot_ok (by assumption)]; done) | (rw [Greedy.tot_bad (by assumption)]; done) | (symm; assumption)
    refine q_end0 (v := .tuple #[.int .i64 (Greedy.sizes h.things), .int .i64 (Greedy.costs h.things), .int .i64 0]) (rt3 rfl (r_tmp rfl) (r_tmp rfl) (r_tmp rfl)) (i := 1) rfl ?_
    exact (by have hcc := congr (congr (congrArg (fun (y0 : Int) (y1 : Int) (y2 : Int) => (.tuple #[.int .i64 y0, .int .i64 y1, .int .i64 y2] : Value)) hr0) hr1) hr2; exact hcc)

set_option maxHeartbeats 8000000 in
set_option maxRecDepth 100000 in
theorem victim_ok (h : DGreedy) (ah_0 : Option Addr) (ch_0 : Nat) : Fn0 Try.prog 26 [.agg #[.int .i64 h.room, .int .i64 h.floor, .slice ah_0 h.things.length ch_0]] (fun w => Rd tItem w ah_0 ch_0 h.things) (.tuple #[.int .i64 (Greedy.victim h), .int .i64 (Greedy.victimErr h)]) := by
  refine fn0 (nt := 26) (F0 := [(0, .agg #[.int .i64 h.room, .int .i64 h.floor, .slice ah_0 h.things.length ch_0])]) Try.func26 rfl Try.ntmps26 rfl rfl (fun w0 hpre => ?_)
  have hh_0 := hpre
  have hlhh_0 := hh_0.2.1
  refine c_seq ?_
  refine c_region ?_
  refine o_box (v := .agg #[.int .i64 h.room, .int .i64 h.floor, .slice ah_0 h.things.length ch_0]) rfl rfl (fun B1 => ?_)
  refine o_pure (p_assign (v := .int .i64 0) rfl) rfl rfl rfl ?_
  refine o_pure (p_assign (v := .int .i64 0) rfl) rfl rfl rfl ?_
  refine o_nil ?_
  refine q_then ?_
  refine c_seq ?_
  refine c_region ?_
  refine o_pure (p_load_agg (i := 0) (vs := [.int .i64 h.room, .int .i64 h.floor, .slice ah_0 h.things.length ch_0]) rfl rfl sh39 rfl rfl) rfl rfl rfl ?_
  refine o_call0 (v := .int .i64 (Greedy.check h)) rfl (gcheck_ok h ah_0 ch_0) hf33 (fun w hw => (rd_base (i := 1) rfl hh_0) w hw) rfl ?_
  refine o_pure (p_assign (v := .int .i64 (Greedy.check h)) rfl) rfl rfl rfl ?_
  refine o_nil ?_
  refine q_then ?_
  refine c_seq ?_
  refine c_seq ?_
  refine c_region ?_
  refine o_pure (p_move (v := .int .i64 (Greedy.check h)) rfl) rfl rfl rfl ?_
  refine o_pure (p_eq (p := (Greedy.check h)) (q := 0) rfl rfl) rfl rfl rfl ?_
  refine o_pure (p_move (v := .bool ((Greedy.check h) == 0)) rfl) rfl rfl rfl ?_
  refine o_and (p := 14) 5 ((h.things.length : Int) == 0) ?_ ?_ ?_
  · intro hb2 hk
    simp only [beq_iff_eq] at hb2
    refine o_unguard 9 rfl rfl ?_
    refine o_pure (p_fieldAddr (B := B1) (j := 0) (j' := 2) rfl fo39_2 rfl) rfl rfl rfl ?_
    refine o_unguard 9 rfl rfl ?_
    refine o_pure (p_load (i := 0) (v := .slice ah_0 h.things.length ch_0) rfl rfl sh37 rfl) rfl rfl rfl ?_
    refine o_unguard 9 rfl rfl ?_
    refine o_pure (p_len_slice (len := h.things.length) rfl rfl Try.underlying37) rfl rfl rfl ?_
    refine o_unguard 9 rfl rfl ?_
    refine o_pure (p_eq (p := (h.things.length : Int)) (q := 0) rfl rfl) rfl rfl rfl ?_
    refine o_pure (p_pick_true (u := .bool ((h.things.length : Int) == 0)) rfl rfl) rfl rfl rfl ?_
    exact o_sub (Sub.cons rfl (Sub.skip rfl (Sub.skip rfl (Sub.skip rfl (Sub.skip rfl (Sub.skip rfl (Sub.skip rfl (Sub.refl _)))))))) hk
  · intro hb2 hk
    refine o_guard_no rfl 9 rfl rfl rfl rfl rfl ?_
    refine o_guard_no rfl 9 rfl rfl rfl rfl rfl ?_
    refine o_guard_no rfl 9 rfl rfl rfl rfl rfl ?_
    refine o_guard_no rfl 9 rfl rfl rfl rfl rfl ?_
    refine o_pure (p_pick_false (v := .bool false) rfl rfl) rfl rfl rfl ?_
    exact o_sub (Sub.cons rfl (Sub.skip rfl (Sub.skip rfl (Sub.skip rfl (Sub.skip rfl (Sub.skip rfl (Sub.skip rfl (Sub.refl _)))))))) hk
  refine o_nil ?_
  refine q_then ?_
  refine c_cond (b := (((Greedy.check h) == 0) && ((h.things.length : Int) == 0))) rfl (fun hc3 => ?_) (fun hc3 => ?_)
  · simp only [Bool.and_eq_true, beq_iff_eq] at hc3
    refine c_region ?_
    refine o_pure (p_assign (v := .int .i64 5) rfl) rfl rfl rfl ?_
    refine o_nil ?_
    refine q_then ?_
    refine c_seq ?_
    refine c_seq ?_
    refine c_region ?_
    refine o_pure (p_move (v := .int .i64 5) rfl) rfl rfl rfl ?_
    refine o_pure (p_ne (p := 5) (q := 0) rfl rfl) rfl rfl rfl ?_
    refine o_nil ?_
    refine q_then ?_
    refine c_true rfl ?_
    refine c_seq ?_
    refine c_region ?_
    refine o_pure (p_move (v := .int .i64 5) rfl) rfl rfl rfl ?_
    refine o_pure (p_assign (v := .int .i64 0) rfl) rfl rfl rfl ?_
    refine o_pure (p_assign (v := .int .i64 5) rfl) rfl rfl rfl ?_
    refine o_nil ?_
    refine q_then ?_
    refine c_ret ?_
    refine q_then_ret ?_
    obtain ⟨hv1, hv2⟩ : _ ∧ _ := by first | exact Greedy.vic_none (by assumption) | exact Greedy.vic_bad (by assumption) | exact Greedy.vic_ok (by assumption) hlt
    have hr0 : (0 : Int) = (Greedy.victim h) := by
      exact hv1.symm
    have hr1 : (5 : Int) = (Greedy.victimErr h) := by
      exact hv2.symm
    refine q_end0 (v := .tuple #[.int .i64 0, .int .i64 5]) (rt2 rfl (r_tmp rfl) (r_tmp rfl)) (i := 1) rfl ?_
    exact (by have hcc := congr (congrArg (fun (y0 : Int) (y1 : Int) => (.tuple #[.int .i64 y0, .int .i64 y1] : Value)) hr0) hr1; exact hcc)
  · simp only [Bool.and_eq_false_iff, beq_eq_false_iff_ne, ne_eq] at hc3
    refine c_skip ?_
    refine q_then ?_
    refine c_seq ?_
    refine c_seq ?_
    refine c_region ?_
    refine o_pure (p_move (v := .int .i64 (Greedy.check h)) rfl) rfl rfl rfl ?_
    refine o_pure (p_ne (p := (Greedy.check h)) (q := 0) rfl rfl) rfl rfl rfl ?_
    refine o_nil ?_
    refine q_then ?_
    refine c_cond (b := ((Greedy.check h) != 0)) rfl (fun hc4 => ?_) (fun hc4 => ?_)
    · simp only [bne_iff_ne, ne_eq] at hc4
      refine c_seq ?_
      refine c_region ?_
      refine o_pure (p_move (v := .int .i64 (Greedy.check h)) rfl) rfl rfl rfl ?_
      refine o_pure (p_assign (v := .int .i64 0) rfl) rfl rfl rfl ?_
      refine o_pure (p_assign (v := .int .i64 (Greedy.check h)) rfl) rfl rfl rfl ?_
      refine o_nil ?_
      refine q_then ?_
      refine c_ret ?_
      refine q_then_ret ?_
      obtain ⟨hv1, hv2⟩ : _ ∧ _ := by first | exact Greedy.vic_none (by assumption) | exact Greedy.vic_bad (by assumption) | exact Greedy.vic_ok (by assumption) hlt
      have hr0 : (0 : Int) = (Greedy.victim h) := by
        exact hv1.symm
      have hr1 : ((Greedy.check h) : Int) = (Greedy.victimErr h) := by
        exact hv2.symm
      refine q_end0 (v := .tuple #[.int .i64 0, .int .i64 (Greedy.check h)]) (rt2 rfl (r_tmp rfl) (r_tmp rfl)) (i := 1) rfl ?_
      exact (by have hcc := congr (congrArg (fun (y0 : Int) (y1 : Int) => (.tuple #[.int .i64 y0, .int .i64 y1] : Value)) hr0) hr1; exact hcc)
    · simp only [bne_eq_false_iff_eq] at hc4
      have hlt := Greedy.least_lt (l := h.things) (by omega)
      refine c_skip ?_
      refine q_then ?_
      refine c_seq ?_
      refine c_draw hmix (by kernel_rfl) ?_
      refine w_pure (p_fieldAddr (B := B1) (j := 0) (j' := 2) rfl fo39_2 rfl) rfl rfl rfl ?_
      refine w_pure (p_load (i := 0) (v := .slice ah_0 h.things.length ch_0) rfl rfl sh37 rfl) rfl rfl rfl ?_
      refine w_pure (p_fieldAddr (B := B1) (j := 0) (j' := 2) rfl fo39_2 rfl) rfl rfl rfl ?_
      refine w_pure (p_load (i := 0) (v := .slice ah_0 h.things.length ch_0) rfl rfl sh37 rfl) rfl rfl rfl ?_
      refine w_call0 (v := .int .i64 (Greedy.least h.things : Int)) rfl (least_ok h.things ah_0 ch_0) hf76 (fun w hw => (rd_base (i := 1) rfl hh_0) w hw) rfl ?_
      refine w_pure (p_indexAddr (L := h.things) (T := tItem) (i := (Greedy.least h.things : Int)) rfl rfl (rd_base (i := 1) rfl hh_0) Try.underlying37 sz41 (by omega) (by omega)) rfl rfl rfl ?_
      refine w_pure (p_fieldAddrE rfl fo41_0) rfl rfl rfl ?_
      refine w_pure (p_loadF (i := Greedy.least h.things) (j := 0) (T := tItem) (L := h.things) (v := .int .i64 ((h.things[Greedy.least h.things]).key)) rfl (rd_base (i := 1) rfl hh_0) (by first | assumption | omega) sh3 rfl) rfl rfl rfl ?_
      refine w_pure (p_assign (v := .int .i64 ((h.things[Greedy.least h.things]).key)) rfl) rfl rfl rfl ?_
      refine w_pure (p_assign (v := .int .i64 0) rfl) rfl rfl rfl ?_
      refine w_nil ?_
      refine q_then ?_
      refine c_ret ?_
      obtain ⟨hv1, hv2⟩ : _ ∧ _ := by first | exact Greedy.vic_none (by assumption) | exact Greedy.vic_bad (by assumption) | exact Greedy.vic_ok (by assumption) hlt
      have hr0 : ((h.things[Greedy.least h.things]).key : Int) = (Greedy.victim h) := by
        exact hv1.symm
      have hr1 : (0 : Int) = (Greedy.victimErr h) := by
        exact hv2.symm
      refine q_end0 (v := .tuple #[.int .i64 ((h.things[Greedy.least h.things]).key), .int .i64 0]) (rt2 rfl (r_tmp rfl) (r_tmp rfl)) (i := 1) rfl ?_
      exact (by have hcc := congr (congrArg (fun (y0 : Int) (y1 : Int) => (.tuple #[.int .i64 y0, .int .i64 y1] : Value)) hr0) hr1; exact hcc)
end Go.Proofs.Ythbfdhphnofacab
