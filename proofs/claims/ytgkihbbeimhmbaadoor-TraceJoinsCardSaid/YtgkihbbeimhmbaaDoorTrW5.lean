/- The walks, printed by a program from the translation and a specification. -/
import Derived.Test.YtgkihbbeimhmbaaDoorTrF
import Derived.Test.YtgkihbbeimhmbaaDoorTrLaw7
import Derived.Test.YtgkihbbeimhmbaaDoorTrW2
namespace Go.Proofs.YtgkihbbeimhmbaaDoor
open Go.Sx Go.RowKit
set_option maxHeartbeats 8000000 in
set_option maxRecDepth 100000 in
theorem between_ok (n : Int) (a : Int) (b : Int) : Fn0 Tryd.prog 22 [.int .i64 n, .int .i64 a, .int .i64 b] (fun _ => True) (.bool (Ref.between n a b)) := by
  refine fn0 (nt := 15) (F0 := [(0, .int .i64 n), (1, .int .i64 a), (2, .int .i64 b)]) Tryd.func22 rfl Tryd.ntmps22 rfl rfl (fun w0 hpre => ?_)
  refine c_seq ?_
  refine c_region ?_
  refine o_pure (p_assign (v := .bool false) rfl) rfl rfl rfl ?_
  refine o_nil ?_
  refine q_then ?_
  refine c_seq ?_
  refine c_region ?_
  refine o_pure (p_move (v := .int .i64 n) rfl) rfl rfl rfl ?_
  refine o_pure (p_move (v := .int .i64 a) rfl) rfl rfl rfl ?_
  refine o_pure (p_ge (p := n) (q := a) rfl rfl) rfl rfl rfl ?_
  refine o_pure (p_move (v := .bool (decide (a ≤ n))) rfl) rfl rfl rfl ?_
  refine o_and (p := 14) 4 (decide (n ≤ b)) ?_ ?_ ?_
  · intro hb1 hk
    simp only [decide_eq_true_eq] at hb1
    refine o_unguard 10 rfl rfl ?_
    refine o_pure (p_move (v := .int .i64 n) rfl) rfl rfl rfl ?_
    refine o_unguard 10 rfl rfl ?_
    refine o_pure (p_move (v := .int .i64 b) rfl) rfl rfl rfl ?_
    refine o_unguard 10 rfl rfl ?_
    refine o_pure (p_le (p := n) (q := b) rfl rfl) rfl rfl rfl ?_
    refine o_pure (p_pick_true (u := .bool (decide (n ≤ b))) rfl rfl) rfl rfl rfl ?_
    exact o_sub (Sub.cons rfl (Sub.skip rfl (Sub.skip rfl (Sub.skip rfl (Sub.skip rfl (Sub.skip rfl (Sub.refl _))))))) hk
  · intro hb1 hk
    refine o_guard_no rfl 10 rfl rfl rfl rfl rfl ?_
    refine o_guard_no rfl 10 rfl rfl rfl rfl rfl ?_
    refine o_guard_no rfl 10 rfl rfl rfl rfl rfl ?_
    refine o_pure (p_pick_false (v := .bool false) rfl rfl) rfl rfl rfl ?_
    exact o_sub (Sub.cons rfl (Sub.skip rfl (Sub.skip rfl (Sub.skip rfl (Sub.skip rfl (Sub.skip rfl (Sub.refl _))))))) hk
  refine o_pure (p_assign (v := .bool (decide (a ≤ n) && decide (n ≤ b))) rfl) rfl rfl rfl ?_
  refine o_nil ?_
  refine q_then ?_
  refine c_ret ?_
  have hr0 : ((decide (a ≤ n) && decide (n ≤ b)) : Bool) = (Ref.between n a b) := by
    rfl
  refine q_end0 (v := .bool (decide (a ≤ n) && decide (n ≤ b))) (rt1 rfl (r_tmp rfl)) (i := 0) rfl ?_
  exact (by have hcc := congrArg (fun (y0 : Bool) => (.bool y0 : Value)) hr0; exact hcc)

set_option maxHeartbeats 8000000 in
set_option maxRecDepth 100000 in
theorem sameInts_ok (a : List Int) (aa : Option Addr) (ca : Nat) (b : List Int) (ab : Option Addr) (cb : Nat) : Fn0 Tryd.prog 14 [.slice aa a.length ca, .slice ab b.length cb] (fun w => Rd tInt w aa ca a ∧ Rd tInt w ab cb b) (.bool (Ref.sameInts a b)) := by
  refine fn0 (nt := 26) (F0 := [(0, .slice aa a.length ca), (1, .slice ab b.length cb)]) Tryd.func14 rfl Tryd.ntmps14 rfl rfl (fun w0 hpre => ?_)
  obtain ⟨ha, hb⟩ := hpre
  have hlha := ha.2.1
  have hlhb := hb.2.1
  refine c_seq ?_
  refine c_region ?_
  refine o_pure (p_assign (v := .bool false) rfl) rfl rfl rfl ?_
  refine o_nil ?_
  refine q_then ?_
  refine c_seq ?_
  refine c_seq ?_
  refine c_region ?_
  refine o_pure (p_move (v := .slice aa a.length ca) rfl) rfl rfl rfl ?_
  refine o_pure (p_len_slice (len := a.length) rfl rfl Tryd.underlying22) rfl rfl rfl ?_
  refine o_pure (p_move (v := .slice ab b.length cb) rfl) rfl rfl rfl ?_
  refine o_pure (p_len_slice (len := b.length) rfl rfl Tryd.underlying22) rfl rfl rfl ?_
  refine o_pure (p_ne (p := (a.length : Int)) (q := (b.length : Int)) rfl rfl) rfl rfl rfl ?_
  refine o_nil ?_
  refine q_then ?_
  refine c_cond (b := ((a.length : Int) != (b.length : Int))) rfl (fun hc1 => ?_) (fun hc1 => ?_)
  · simp only [bne_iff_ne, ne_eq] at hc1
    refine c_seq ?_
    refine c_region ?_
    refine o_pure (p_assign (v := .bool false) rfl) rfl rfl rfl ?_
    refine o_nil ?_
    refine q_then ?_
    refine c_ret ?_
    refine q_then_ret ?_
    have hr0 : (false : Bool) = (Ref.sameInts a b) := by
      simp only [Ref.sameInts]
      grind [List.ext_getElem]
    refine q_end0 (v := .bool false) (rt1 rfl (r_tmp rfl)) (i := 0) rfl ?_
    exact (by have hcc := congrArg (fun (y0 : Bool) => (.bool y0 : Value)) hr0; exact hcc)
  · simp only [bne_eq_false_iff_eq] at hc1
    refine c_skip ?_
    refine q_then ?_
    refine c_seq ?_
    refine c_seq ?_
    refine c_region ?_
    refine o_pure (p_assign (v := .int .i64 0) rfl) rfl rfl rfl ?_
    refine o_nil ?_
    refine q_then ?_
    refine c_block ?_
    refine c_loop (St := Nat)
      (fun i => [(0, .slice aa a.length ca), (1, .slice ab b.length cb), (5, .int .i64 (i : Int))])
      (fun i => [base w0])
      (fun i => i ≤ a.length ∧ ∀ j (h1 : j < a.length) (h2 : j < b.length), j < i → a[j] = b[j])
      (fun i => a.length - i)
      0 ?_ (Sub.cons rfl (Sub.cons rfl (Sub.cons rfl (Sub.nil _)))) (fun _ hw => hw) ?_
    · exact ⟨Nat.zero_le _, fun j _ _ h => absurd h (by omega)⟩
    rintro i hI K hK2
    obtain ⟨hi, hinv⟩ := hI
    show SC _ _ Tryd.prog 26 w0 _ _ [(0, .slice aa a.length ca), (1, .slice ab b.length cb), (5, .int .i64 (i : Int))] [base w0]
    refine c_seq ?_
    refine c_seq ?_
    refine c_region ?_
    refine o_pure (p_move (v := .int .i64 (i : Int)) rfl) rfl rfl rfl ?_
    refine o_pure (p_move (v := .slice aa a.length ca) rfl) rfl rfl rfl ?_
    refine o_pure (p_len_slice (len := a.length) rfl rfl Tryd.underlying22) rfl rfl rfl ?_
    refine o_pure (p_lt (p := (i : Int)) (q := (a.length : Int)) rfl rfl) rfl rfl rfl ?_
    refine o_nil ?_
    refine q_then ?_
    refine c_cond (b := decide ((i : Int) < (a.length : Int))) rfl (fun hc3 => ?_) (fun hc3 => ?_)
    · simp only [decide_eq_true_eq] at hc3
      refine c_skip ?_
      refine q_then ?_
      refine c_seq ?_
      refine c_block ?_
      refine c_seq ?_
      refine c_draw hmix (by kernel_rfl) ?_
      refine w_pure (p_move (v := .slice aa a.length ca) rfl) rfl rfl rfl ?_
      refine w_pure (p_move (v := .int .i64 (i : Int)) rfl) rfl rfl rfl ?_
      refine w_pure (p_indexAddr (L := a) (T := tInt) (i := (i : Int)) rfl rfl (rd_base (i := 0) rfl ha) Tryd.underlying22 sz3 (by omega) (by omega)) rfl rfl rfl ?_
      refine w_pure (p_loadE1 (i := i) (T := tInt) (L := a) (v := .int .i64 (a[i])) rfl (rd_base (i := 0) rfl ha) (by first | assumption | omega) sh3 rfl) rfl rfl rfl ?_
      refine w_pure (p_move (v := .slice ab b.length cb) rfl) rfl rfl rfl ?_
      refine w_pure (p_move (v := .int .i64 (i : Int)) rfl) rfl rfl rfl ?_
      refine w_pure (p_indexAddr (L := b) (T := tInt) (i := (i : Int)) rfl rfl (rd_base (i := 0) rfl hb) Tryd.underlying22 sz3 (by omega) (by omega)) rfl rfl rfl ?_
      refine w_pure (p_loadE1 (i := i) (T := tInt) (L := b) (v := .int .i64 (b[i])) rfl (rd_base (i := 0) rfl hb) (by first | assumption | omega) sh3 rfl) rfl rfl rfl ?_
      refine w_pure (p_ne (p := a[i]) (q := b[i]) rfl rfl) rfl rfl rfl ?_
      refine w_nil ?_
      refine q_then ?_
      refine c_cond (b := (a[i] != b[i])) rfl (fun hc4 => ?_) (fun hc4 => ?_)
      · simp only [bne_iff_ne, ne_eq] at hc4
        refine c_seq ?_
        refine c_region ?_
        refine o_pure (p_assign (v := .bool false) rfl) rfl rfl rfl ?_
        refine o_nil ?_
        refine q_then ?_
        refine c_ret ?_
        refine q_block_ret (q_then_ret (q_then_ret (q_block_ret (q_then_ret ?_))))
        have hr0 : (false : Bool) = (Ref.sameInts a b) := by
          simp only [Ref.sameInts]
          grind [List.ext_getElem]
        refine q_end0 (v := .bool false) (rt1 rfl (r_tmp rfl)) (i := 0) rfl ?_
        exact (by have hcc := congrArg (fun (y0 : Bool) => (.bool y0 : Value)) hr0; exact hcc)
      · simp only [bne_eq_false_iff_eq] at hc4
        refine c_skip ?_
        refine q_block_normal (q_then ?_)
        refine c_region ?_
        refine o_pure (p_move (v := .int .i64 (i : Int)) rfl) rfl rfl rfl ?_
        refine o_pure (p_addb (p := (i : Int)) (q := 1) rfl rfl (by omega)) rfl rfl rfl ?_
        refine o_pure (p_assign (v := .int .i64 ((i : Int) + 1)) rfl) rfl rfl rfl ?_
        refine o_nil ?_
        refine q_round hK2 (i + 1) ?_ ?_ ?_ ?_
        · clear hK2
          refine ⟨by omega, ?_⟩
          grind
        · (try dsimp only); omega
        · exact Sub.cons rfl (Sub.cons rfl (Sub.cons rfl (Sub.nil _)))
        · exact fun _ hw => HeapIs.pick hw [0] (by decide) rfl
    · simp only [decide_eq_false_iff_not, Int.not_lt] at hc3
      refine c_exit ?_
      refine q_then_exit (q_then_exit (q_block_exit (q_then ?_)))
      refine c_seq ?_
      refine c_region ?_
      refine o_pure (p_assign (v := .bool true) rfl) rfl rfl rfl ?_
      refine o_nil ?_
      refine q_then ?_
      refine c_ret ?_
      have hr0 : (true : Bool) = (Ref.sameInts a b) := by
        simp only [Ref.sameInts]
        grind [List.ext_getElem]
      refine q_end0 (v := .bool true) (rt1 rfl (r_tmp rfl)) (i := 0) rfl ?_
      exact (by have hcc := congrArg (fun (y0 : Bool) => (.bool y0 : Value)) hr0; exact hcc)

set_option maxHeartbeats 8000000 in
set_option maxRecDepth 100000 in
theorem traceCheck_ok (l : List Int) (al : Option Addr) (cl : Nat) : Fn0 Tryd.prog 10 [.slice al l.length cl] (fun w => Rd tInt w al cl l) (.int .i64 (Lru.trace l)) := by
  refine fn0 (nt := 19) (F0 := [(0, .slice al l.length cl)]) Tryd.func10 rfl Tryd.ntmps10 rfl rfl (fun w0 hpre => ?_)
  have hl := hpre
  have hlhl := hl.2.1
  refine c_seq ?_
  refine c_region ?_
  refine o_pure (p_assign (v := .int .i64 0) rfl) rfl rfl rfl ?_
  refine o_nil ?_
  refine q_then ?_
  refine c_seq ?_
  refine c_seq ?_
  refine c_region ?_
  refine o_pure (p_move (v := .slice al l.length cl) rfl) rfl rfl rfl ?_
  refine o_pure (p_len_slice (len := l.length) rfl rfl Tryd.underlying22) rfl rfl rfl ?_
  refine o_pure (p_gt (p := (l.length : Int)) (q := 200) rfl rfl) rfl rfl rfl ?_
  refine o_nil ?_
  refine q_then ?_
  refine c_cond (b := decide (200 < (l.length : Int))) rfl (fun hc1 => ?_) (fun hc1 => ?_)
  · simp only [decide_eq_true_eq] at hc1
    refine c_seq ?_
    refine c_region ?_
    refine o_pure (p_assign (v := .int .i64 2) rfl) rfl rfl rfl ?_
    refine o_nil ?_
    refine q_then ?_
    refine c_ret ?_
    refine q_then_ret ?_
    have hr0 : (2 : Int) = (Lru.trace l) := by
      simp only [Lru.trace, Lru.okKey, Ref.between] at *
      grind [List.any_eq_true, List.mem_iff_getElem]
    refine q_end0 (v := .int .i64 2) (rt1 rfl (r_tmp rfl)) (i := 0) rfl ?_
    exact (by have hcc := congrArg (fun (y0 : Int) => (.int .i64 y0 : Value)) hr0; exact hcc)
  · simp only [decide_eq_false_iff_not, Int.not_lt] at hc1
    refine c_skip ?_
    refine q_then ?_
    refine c_seq ?_
    refine c_seq ?_
    refine c_region ?_
    refine o_pure (p_assign (v := .int .i64 0) rfl) rfl rfl rfl ?_
    refine o_nil ?_
    refine q_then ?_
    refine c_block ?_
    refine c_loop (St := Nat)
      (fun i => [(0, .slice al l.length cl), (3, .int .i64 (i : Int))])
      (fun i => [base w0])
      (fun i => i ≤ l.length ∧ ∀ j (h1 : j < l.length), j < i → Lru.okKey l[j] = true)
      (fun i => l.length - i)
      0 ?_ (Sub.cons rfl (Sub.cons rfl (Sub.nil _))) (fun _ hw => hw) ?_
    · exact ⟨Nat.zero_le _, fun j _ h => absurd h (by omega)⟩
    rintro i hI K hK2
    obtain ⟨hi, hinv⟩ := hI
    show SC _ _ Tryd.prog 19 w0 _ _ [(0, .slice al l.length cl), (3, .int .i64 (i : Int))] [base w0]
    refine c_seq ?_
    refine c_seq ?_
    refine c_region ?_
    refine o_pure (p_move (v := .int .i64 (i : Int)) rfl) rfl rfl rfl ?_
    refine o_pure (p_move (v := .slice al l.length cl) rfl) rfl rfl rfl ?_
    refine o_pure (p_len_slice (len := l.length) rfl rfl Tryd.underlying22) rfl rfl rfl ?_
    refine o_pure (p_lt (p := (i : Int)) (q := (l.length : Int)) rfl rfl) rfl rfl rfl ?_
    refine o_nil ?_
    refine q_then ?_
    refine c_cond (b := decide ((i : Int) < (l.length : Int))) rfl (fun hc3 => ?_) (fun hc3 => ?_)
    · simp only [decide_eq_true_eq] at hc3
      refine c_skip ?_
      refine q_then ?_
      refine c_seq ?_
      refine c_block ?_
      refine c_seq ?_
      refine c_region ?_
      refine o_pure (p_move (v := .slice al l.length cl) rfl) rfl rfl rfl ?_
      refine o_pure (p_move (v := .int .i64 (i : Int)) rfl) rfl rfl rfl ?_
      refine o_pure (p_indexAddr (L := l) (T := tInt) (i := (i : Int)) rfl rfl (rd_base (i := 0) rfl hl) Tryd.underlying22 sz3 (by omega) (by omega)) rfl rfl rfl ?_
      refine o_pure (p_loadE1 (i := i) (T := tInt) (L := l) (v := .int .i64 (l[i])) rfl (rd_base (i := 0) rfl hl) (by first | assumption | omega) sh3 rfl) rfl rfl rfl ?_
      refine o_call0 (v := .bool (Ref.between (l[i]) (0 : Int) (1048576 : Int))) rfl (between_ok (l[i]) (0 : Int) (1048576 : Int)) hf22 (fun _ _ => trivial) rfl ?_
      refine o_pure (p_not (b := (Ref.between (l[i]) (0 : Int) (1048576 : Int))) rfl) rfl rfl rfl ?_
      refine o_nil ?_
      refine q_then ?_
      refine c_cond (b := (!(Ref.between (l[i]) (0 : Int) (1048576 : Int)))) rfl (fun hc4 => ?_) (fun hc4 => ?_)
      · simp only [Bool.not_eq_true'] at hc4
        refine c_seq ?_
        refine c_region ?_
        refine o_pure (p_assign (v := .int .i64 3) rfl) rfl rfl rfl ?_
        refine o_nil ?_
        refine q_then ?_
        refine c_ret ?_
        refine q_block_ret (q_then_ret (q_then_ret (q_block_ret (q_then_ret ?_))))
        have hr0 : (3 : Int) = (Lru.trace l) := by
          simp only [Lru.trace, Lru.okKey, Ref.between] at *
          grind [List.any_eq_true, List.mem_iff_getElem]
        refine q_end0 (v := .int .i64 3) (rt1 rfl (r_tmp rfl)) (i := 0) rfl ?_
        exact (by have hcc := congrArg (fun (y0 : Int) => (.int .i64 y0 : Value)) hr0; exact hcc)
      · simp only [Bool.not_eq_false'] at hc4
        refine c_skip ?_
        refine q_block_normal (q_then ?_)
        refine c_region ?_
        refine o_pure (p_move (v := .int .i64 (i : Int)) rfl) rfl rfl rfl ?_
        refine o_pure (p_addb (p := (i : Int)) (q := 1) rfl rfl (by omega)) rfl rfl rfl ?_
        refine o_pure (p_assign (v := .int .i64 ((i : Int) + 1)) rfl) rfl rfl rfl ?_
        refine o_nil ?_
        refine q_round hK2 (i + 1) ?_ ?_ ?_ ?_
        · clear hK2
          refine ⟨by omega, ?_⟩
          simp only [Lru.okKey, Ref.between] at *
          grind
        · (try dsimp only); omega
        · exact Sub.cons rfl (Sub.cons rfl (Sub.nil _))
        · exact fun _ hw => HeapIs.pick hw [0] (by decide) rfl
    · simp only [decide_eq_false_iff_not, Int.not_lt] at hc3
      refine c_exit ?_
      refine q_then_exit (q_then_exit (q_block_exit (q_then ?_)))
      refine c_seq ?_
      refine c_region ?_
      refine o_pure (p_assign (v := .int .i64 0) rfl) rfl rfl rfl ?_
      refine o_nil ?_
      refine q_then ?_
      refine c_ret ?_
      have hr0 : (0 : Int) = (Lru.trace l) := by
        simp only [Lru.trace, Lru.okKey, Ref.between] at *
        grind [List.any_eq_true, List.mem_iff_getElem]
      refine q_end0 (v := .int .i64 0) (rt1 rfl (r_tmp rfl)) (i := 0) rfl ?_
      exact (by have hcc := congrArg (fun (y0 : Int) => (.int .i64 y0 : Value)) hr0; exact hcc)

set_option maxHeartbeats 8000000 in
set_option maxRecDepth 100000 in
theorem linesBegun_ok  : Fn0 Tryd.prog 13 [] (fun w => MaxW w ∧ TabW w) (.bool true) := by
  refine fn0 (nt := 53) (F0 := []) Tryd.func13 rfl Tryd.ntmps13 rfl rfl (fun w0 hpre => ?_)
  obtain ⟨hMaxW, hTabW⟩ := hpre
  refine c_seq ?_
  refine c_region ?_
  refine o_pure (p_assign (v := .bool false) rfl) rfl rfl rfl ?_
  refine o_nil ?_
  refine q_then ?_
  refine c_seq ?_
  refine c_region ?_
  refine o_buildSlice (m := 8) (T := tInt) (L := [7, 7, 1, 2, 3, 3, 9, 10]) (vs := [.int .i64 7, .int .i64 7, .int .i64 1, .int .i64 2, .int .i64 3, .int .i64 3, .int .i64 9, .int .i64 10]) rfl rfl rfl rfl Tryd.underlying22 sz3 (by decide) ze3 rfl (by decide) rfl (fun S1 a2 => ?_)
  refine o_call0 (v := .tuple #[.string (Trc.format ([7, 7, 1, 2, 3, 3, 9, 10])), .int .i64 (Lru.trace ([7, 7, 1, 2, 3, 3, 9, 10]))]) rfl (tformat_ok ([7, 7, 1, 2, 3, 3, 9, 10]) a2 ([7, 7, 1, 2, 3, 3, 9, 10].length)) hf7 (fun w hw => ⟨(rd_own (i := 0) rfl) w hw, pre_base (i := 1) rfl TabW_st hTabW w hw⟩) rfl ?_
  refine o_pure (p_move (v := .tuple #[.string (Trc.format ([7, 7, 1, 2, 3, 3, 9, 10])), .int .i64 (Lru.trace ([7, 7, 1, 2, 3, 3, 9, 10]))]) rfl) rfl rfl rfl ?_
  refine o_pure (p_extract (vs := [.string (Trc.format ([7, 7, 1, 2, 3, 3, 9, 10])), .int .i64 (Lru.trace ([7, 7, 1, 2, 3, 3, 9, 10]))]) (v := .string (Trc.format ([7, 7, 1, 2, 3, 3, 9, 10]))) rfl rfl) rfl rfl rfl ?_
  refine o_pure (p_extract (vs := [.string (Trc.format ([7, 7, 1, 2, 3, 3, 9, 10])), .int .i64 (Lru.trace ([7, 7, 1, 2, 3, 3, 9, 10]))]) (v := .int .i64 (Lru.trace ([7, 7, 1, 2, 3, 3, 9, 10]))) rfl rfl) rfl rfl rfl ?_
  refine o_pure (p_assign (v := .string (Trc.format ([7, 7, 1, 2, 3, 3, 9, 10]))) rfl) rfl rfl rfl ?_
  refine o_pure (p_assign (v := .int .i64 (Lru.trace ([7, 7, 1, 2, 3, 3, 9, 10]))) rfl) rfl rfl rfl ?_
  refine o_nil ?_
  refine q_then ?_
  refine c_seq ?_
  refine c_region ?_
  refine o_callM rfl (tparse_ok (ByteArray.mk #[48, 32, 53, 42, 50, 32, 56, 45, 49, 48])) hf8 (fun w hw => pre_base (i := 1) rfl MaxW_st hMaxW w hw) rfl (fun _ _ _ _ ha hA => SlO.agree ha hA) ?_
  rintro ⟨a6, c7⟩ S4
  refine o_know (fun w hw => own_len (i := 0) (T := tInt) hw rfl) (fun hlr8 => ?_)
  refine o_pure (p_move (v := .tuple #[.slice a6 ((Trc.parse (ByteArray.mk #[48, 32, 53, 42, 50, 32, 56, 45, 49, 48])).1).length c7, .int .i64 ((Trc.parse (ByteArray.mk #[48, 32, 53, 42, 50, 32, 56, 45, 49, 48])).2)]) rfl) rfl rfl rfl ?_
  refine o_pure (p_extract (vs := [.slice a6 ((Trc.parse (ByteArray.mk #[48, 32, 53, 42, 50, 32, 56, 45, 49, 48])).1).length c7, .int .i64 ((Trc.parse (ByteArray.mk #[48, 32, 53, 42, 50, 32, 56, 45, 49, 48])).2)]) (v := .slice a6 ((Trc.parse (ByteArray.mk #[48, 32, 53, 42, 50, 32, 56, 45, 49, 48])).1).length c7) rfl rfl) rfl rfl rfl ?_
  refine o_pure (p_extract (vs := [.slice a6 ((Trc.parse (ByteArray.mk #[48, 32, 53, 42, 50, 32, 56, 45, 49, 48])).1).length c7, .int .i64 ((Trc.parse (ByteArray.mk #[48, 32, 53, 42, 50, 32, 56, 45, 49, 48])).2)]) (v := .int .i64 ((Trc.parse (ByteArray.mk #[48, 32, 53, 42, 50, 32, 56, 45, 49, 48])).2)) rfl rfl) rfl rfl rfl ?_
  refine o_pure (p_assign (v := .slice a6 ((Trc.parse (ByteArray.mk #[48, 32, 53, 42, 50, 32, 56, 45, 49, 48])).1).length c7) rfl) rfl rfl rfl ?_
  refine o_pure (p_assign (v := .int .i64 ((Trc.parse (ByteArray.mk #[48, 32, 53, 42, 50, 32, 56, 45, 49, 48])).2)) rfl) rfl rfl rfl ?_
  refine o_nil ?_
  refine q_then ?_
  refine c_seq ?_
  refine c_region ?_
  refine o_call0 (v := .tuple #[.string (Trc.compact (ByteArray.mk #[49, 32, 49, 32, 50, 32, 51, 32, 52])), .int .i64 ((Trc.parse (ByteArray.mk #[49, 32, 49, 32, 50, 32, 51, 32, 52])).2)]) rfl (tcompact_ok (ByteArray.mk #[49, 32, 49, 32, 50, 32, 51, 32, 52])) hf9 (fun w hw => ⟨pre_base (i := 2) rfl MaxW_st hMaxW w hw, pre_base (i := 2) rfl TabW_st hTabW w hw⟩) rfl ?_
  refine o_pure (p_move (v := .tuple #[.string (Trc.compact (ByteArray.mk #[49, 32, 49, 32, 50, 32, 51, 32, 52])), .int .i64 ((Trc.parse (ByteArray.mk #[49, 32, 49, 32, 50, 32, 51, 32, 52])).2)]) rfl) rfl rfl rfl ?_
  refine o_pure (p_extract (vs := [.string (Trc.compact (ByteArray.mk #[49, 32, 49, 32, 50, 32, 51, 32, 52])), .int .i64 ((Trc.parse (ByteArray.mk #[49, 32, 49, 32, 50, 32, 51, 32, 52])).2)]) (v := .string (Trc.compact (ByteArray.mk #[49, 32, 49, 32, 50, 32, 51, 32, 52]))) rfl rfl) rfl rfl rfl ?_
  refine o_pure (p_extract (vs := [.string (Trc.compact (ByteArray.mk #[49, 32, 49, 32, 50, 32, 51, 32, 52])), .int .i64 ((Trc.parse (ByteArray.mk #[49, 32, 49, 32, 50, 32, 51, 32, 52])).2)]) (v := .int .i64 ((Trc.parse (ByteArray.mk #[49, 32, 49, 32, 50, 32, 51, 32, 52])).2)) rfl rfl) rfl rfl rfl ?_
  refine o_pure (p_assign (v := .string (Trc.compact (ByteArray.mk #[49, 32, 49, 32, 50, 32, 51, 32, 52]))) rfl) rfl rfl rfl ?_
  refine o_pure (p_assign (v := .int .i64 ((Trc.parse (ByteArray.mk #[49, 32, 49, 32, 50, 32, 51, 32, 52])).2)) rfl) rfl rfl rfl ?_
  refine o_nil ?_
  refine q_then ?_
  refine c_seq ?_
  refine c_region ?_
  refine o_callM rfl (tparse_ok (ByteArray.mk #[49, 32, 32, 50])) hf8 (fun w hw => pre_base (i := 2) rfl MaxW_st hMaxW w hw) rfl (fun _ _ _ _ ha hA => SlO.agree ha hA) ?_
  rintro ⟨a11, c12⟩ S9
  refine o_know (fun w hw => own_len (i := 0) (T := tInt) hw rfl) (fun hlr13 => ?_)
  refine o_pure (p_move (v := .tuple #[.slice a11 ((Trc.parse (ByteArray.mk #[49, 32, 32, 50])).1).length c12, .int .i64 ((Trc.parse (ByteArray.mk #[49, 32, 32, 50])).2)]) rfl) rfl rfl rfl ?_
  refine o_pure (p_extract (vs := [.slice a11 ((Trc.parse (ByteArray.mk #[49, 32, 32, 50])).1).length c12, .int .i64 ((Trc.parse (ByteArray.mk #[49, 32, 32, 50])).2)]) (v := .slice a11 ((Trc.parse (ByteArray.mk #[49, 32, 32, 50])).1).length c12) rfl rfl) rfl rfl rfl ?_
  refine o_pure (p_extract (vs := [.slice a11 ((Trc.parse (ByteArray.mk #[49, 32, 32, 50])).1).length c12, .int .i64 ((Trc.parse (ByteArray.mk #[49, 32, 32, 50])).2)]) (v := .int .i64 ((Trc.parse (ByteArray.mk #[49, 32, 32, 50])).2)) rfl rfl) rfl rfl rfl ?_
  refine o_pure (p_assign (v := .slice a11 ((Trc.parse (ByteArray.mk #[49, 32, 32, 50])).1).length c12) rfl) rfl rfl rfl ?_
  refine o_pure (p_assign (v := .int .i64 ((Trc.parse (ByteArray.mk #[49, 32, 32, 50])).2)) rfl) rfl rfl rfl ?_
  refine o_nil ?_
  refine q_then ?_
  refine c_seq ?_
  refine c_region ?_
  refine o_pure (p_move (v := .string (Trc.format ([7, 7, 1, 2, 3, 3, 9, 10]))) rfl) rfl rfl rfl ?_
  refine o_pure (p_eqStr (s := (Trc.format ([7, 7, 1, 2, 3, 3, 9, 10]))) (t := (ByteArray.mk #[55, 42, 50, 32, 49, 45, 51, 32, 51, 32, 57, 32, 49, 48])) rfl rfl) rfl rfl rfl ?_
  refine o_pure (p_move (v := .bool (decide ((Trc.format ([7, 7, 1, 2, 3, 3, 9, 10])) = (ByteArray.mk #[55, 42, 50, 32, 49, 45, 51, 32, 51, 32, 57, 32, 49, 48])))) rfl) rfl rfl rfl ?_
  refine o_and (p := 31) 3 ((Lru.trace ([7, 7, 1, 2, 3, 3, 9, 10])) == 0) ?_ ?_ ?_
  · intro hb14 hk
    simp only [decide_eq_true_eq] at hb14
    refine o_unguard 28 rfl rfl ?_
    refine o_pure (p_move (v := .int .i64 (Lru.trace ([7, 7, 1, 2, 3, 3, 9, 10]))) rfl) rfl rfl rfl ?_
    refine o_unguard 28 rfl rfl ?_
    refine o_pure (p_eq (p := (Lru.trace ([7, 7, 1, 2, 3, 3, 9, 10]))) (q := 0) rfl rfl) rfl rfl rfl ?_
    refine o_pure (p_pick_true (u := .bool ((Lru.trace ([7, 7, 1, 2, 3, 3, 9, 10])) == 0)) rfl rfl) rfl rfl rfl ?_
    exact o_sub (Sub.cons rfl (Sub.skip rfl (Sub.skip rfl (Sub.skip rfl (Sub.skip rfl (Sub.refl _)))))) hk
  · intro hb14 hk
    refine o_guard_no rfl 28 rfl rfl rfl rfl rfl ?_
    refine o_guard_no rfl 28 rfl rfl rfl rfl rfl ?_
    refine o_pure (p_pick_false (v := .bool false) rfl rfl) rfl rfl rfl ?_
    exact o_sub (Sub.cons rfl (Sub.skip rfl (Sub.skip rfl (Sub.skip rfl (Sub.skip rfl (Sub.refl _)))))) hk
  refine o_pure (p_move (v := .bool (decide ((Trc.format ([7, 7, 1, 2, 3, 3, 9, 10])) = (ByteArray.mk #[55, 42, 50, 32, 49, 45, 51, 32, 51, 32, 57, 32, 49, 48])) && ((Lru.trace ([7, 7, 1, 2, 3, 3, 9, 10])) == 0))) rfl) rfl rfl rfl ?_
  refine o_and (p := 36) 4 (Ref.sameInts ((Trc.parse (ByteArray.mk #[48, 32, 53, 42, 50, 32, 56, 45, 49, 48])).1) ([0, 5, 5, 8, 9, 10])) ?_ ?_ ?_
  · intro hb15 hk
    simp only [Bool.and_eq_true, decide_eq_true_eq, beq_iff_eq] at hb15
    refine o_unguard 32 rfl rfl ?_
    refine o_pure (p_move (v := .slice a6 ((Trc.parse (ByteArray.mk #[48, 32, 53, 42, 50, 32, 56, 45, 49, 48])).1).length c7) rfl) rfl rfl rfl ?_
    refine o_unguard 32 rfl rfl ?_
    refine o_buildSlice (m := 6) (T := tInt) (L := [0, 5, 5, 8, 9, 10]) (vs := [.int .i64 0, .int .i64 5, .int .i64 5, .int .i64 8, .int .i64 9, .int .i64 10]) rfl rfl rfl rfl Tryd.underlying22 sz3 (by decide) ze3 rfl (by decide) rfl (fun S16 a17 => ?_)
    refine o_unguard 32 rfl rfl ?_
    refine o_call0 (v := .bool (Ref.sameInts ((Trc.parse (ByteArray.mk #[48, 32, 53, 42, 50, 32, 56, 45, 49, 48])).1) ([0, 5, 5, 8, 9, 10]))) rfl (sameInts_ok ((Trc.parse (ByteArray.mk #[48, 32, 53, 42, 50, 32, 56, 45, 49, 48])).1) a6 c7 ([0, 5, 5, 8, 9, 10]) a17 ([0, 5, 5, 8, 9, 10].length)) hf14 (fun w hw => ⟨(rd_own (i := 2) rfl) w hw, (rd_own (i := 0) rfl) w hw⟩) rfl ?_
    refine o_pure (p_pick_true (u := .bool (Ref.sameInts ((Trc.parse (ByteArray.mk #[48, 32, 53, 42, 50, 32, 56, 45, 49, 48])).1) ([0, 5, 5, 8, 9, 10]))) rfl rfl) rfl rfl rfl ?_
    exact o_sub (Sub.cons rfl (Sub.skip rfl (Sub.skip rfl (Sub.skip rfl (Sub.skip rfl (Sub.skip rfl (Sub.refl _))))))) (o_drop (List.Sublist.cons _ (List.Sublist.cons_cons _ (List.Sublist.cons_cons _ (List.Sublist.cons_cons _ (List.Sublist.cons_cons _ (List.Sublist.slnil)))))) hk)
  · intro hb15 hk
    refine o_guard_no rfl 32 rfl rfl rfl rfl rfl ?_
    refine o_guard_no rfl 32 rfl rfl rfl rfl rfl ?_
    refine o_guard_no rfl 32 rfl rfl rfl rfl rfl ?_
    refine o_pure (p_pick_false (v := .bool false) rfl rfl) rfl rfl rfl ?_
    exact o_sub (Sub.cons rfl (Sub.skip rfl (Sub.skip rfl (Sub.skip rfl (Sub.skip rfl (Sub.skip rfl (Sub.refl _))))))) hk
  refine o_pure (p_move (v := .bool ((decide ((Trc.format ([7, 7, 1, 2, 3, 3, 9, 10])) = (ByteArray.mk #[55, 42, 50, 32, 49, 45, 51, 32, 51, 32, 57, 32, 49, 48])) && ((Lru.trace ([7, 7, 1, 2, 3, 3, 9, 10])) == 0)) && (Ref.sameInts ((Trc.parse (ByteArray.mk #[48, 32, 53, 42, 50, 32, 56, 45, 49, 48])).1) ([0, 5, 5, 8, 9, 10])))) rfl) rfl rfl rfl ?_
  refine o_and (p := 40) 3 (((Trc.parse (ByteArray.mk #[48, 32, 53, 42, 50, 32, 56, 45, 49, 48])).2) == 0) ?_ ?_ ?_
  · intro hb19 hk
    simp only [Bool.and_eq_true, decide_eq_true_eq, beq_iff_eq] at hb19
    refine o_unguard 37 rfl rfl ?_
    refine o_pure (p_move (v := .int .i64 ((Trc.parse (ByteArray.mk #[48, 32, 53, 42, 50, 32, 56, 45, 49, 48])).2)) rfl) rfl rfl rfl ?_
    refine o_unguard 37 rfl rfl ?_
    refine o_pure (p_eq (p := ((Trc.parse (ByteArray.mk #[48, 32, 53, 42, 50, 32, 56, 45, 49, 48])).2)) (q := 0) rfl rfl) rfl rfl rfl ?_
    refine o_pure (p_pick_true (u := .bool (((Trc.parse (ByteArray.mk #[48, 32, 53, 42, 50, 32, 56, 45, 49, 48])).2) == 0)) rfl rfl) rfl rfl rfl ?_
    exact o_sub (Sub.cons rfl (Sub.skip rfl (Sub.skip rfl (Sub.skip rfl (Sub.skip rfl (Sub.refl _)))))) hk
  · intro hb19 hk
    refine o_guard_no rfl 37 rfl rfl rfl rfl rfl ?_
    refine o_guard_no rfl 37 rfl rfl rfl rfl rfl ?_
    refine o_pure (p_pick_false (v := .bool false) rfl rfl) rfl rfl rfl ?_
    exact o_sub (Sub.cons rfl (Sub.skip rfl (Sub.skip rfl (Sub.skip rfl (Sub.skip rfl (Sub.refl _)))))) hk
  refine o_pure (p_move (v := .bool (((decide ((Trc.format ([7, 7, 1, 2, 3, 3, 9, 10])) = (ByteArray.mk #[55, 42, 50, 32, 49, 45, 51, 32, 51, 32, 57, 32, 49, 48])) && ((Lru.trace ([7, 7, 1, 2, 3, 3, 9, 10])) == 0)) && (Ref.sameInts ((Trc.parse (ByteArray.mk #[48, 32, 53, 42, 50, 32, 56, 45, 49, 48])).1) ([0, 5, 5, 8, 9, 10]))) && (((Trc.parse (ByteArray.mk #[48, 32, 53, 42, 50, 32, 56, 45, 49, 48])).2) == 0))) rfl) rfl rfl rfl ?_
  refine o_and (p := 44) 3 (decide ((Trc.compact (ByteArray.mk #[49, 32, 49, 32, 50, 32, 51, 32, 52])) = (ByteArray.mk #[49, 42, 50, 32, 50, 45, 52]))) ?_ ?_ ?_
  · intro hb20 hk
    simp only [Bool.and_eq_true, decide_eq_true_eq, beq_iff_eq] at hb20
    refine o_unguard 41 rfl rfl ?_
    refine o_pure (p_move (v := .string (Trc.compact (ByteArray.mk #[49, 32, 49, 32, 50, 32, 51, 32, 52]))) rfl) rfl rfl rfl ?_
    refine o_unguard 41 rfl rfl ?_
    refine o_pure (p_eqStr (s := (Trc.compact (ByteArray.mk #[49, 32, 49, 32, 50, 32, 51, 32, 52]))) (t := (ByteArray.mk #[49, 42, 50, 32, 50, 45, 52])) rfl rfl) rfl rfl rfl ?_
    refine o_pure (p_pick_true (u := .bool (decide ((Trc.compact (ByteArray.mk #[49, 32, 49, 32, 50, 32, 51, 32, 52])) = (ByteArray.mk #[49, 42, 50, 32, 50, 45, 52])))) rfl rfl) rfl rfl rfl ?_
    exact o_sub (Sub.cons rfl (Sub.skip rfl (Sub.skip rfl (Sub.skip rfl (Sub.skip rfl (Sub.refl _)))))) hk
  · intro hb20 hk
    refine o_guard_no rfl 41 rfl rfl rfl rfl rfl ?_
    refine o_guard_no rfl 41 rfl rfl rfl rfl rfl ?_
    refine o_pure (p_pick_false (v := .bool false) rfl rfl) rfl rfl rfl ?_
    exact o_sub (Sub.cons rfl (Sub.skip rfl (Sub.skip rfl (Sub.skip rfl (Sub.skip rfl (Sub.refl _)))))) hk
  refine o_pure (p_move (v := .bool ((((decide ((Trc.format ([7, 7, 1, 2, 3, 3, 9, 10])) = (ByteArray.mk #[55, 42, 50, 32, 49, 45, 51, 32, 51, 32, 57, 32, 49, 48])) && ((Lru.trace ([7, 7, 1, 2, 3, 3, 9, 10])) == 0)) && (Ref.sameInts ((Trc.parse (ByteArray.mk #[48, 32, 53, 42, 50, 32, 56, 45, 49, 48])).1) ([0, 5, 5, 8, 9, 10]))) && (((Trc.parse (ByteArray.mk #[48, 32, 53, 42, 50, 32, 56, 45, 49, 48])).2) == 0)) && decide ((Trc.compact (ByteArray.mk #[49, 32, 49, 32, 50, 32, 51, 32, 52])) = (ByteArray.mk #[49, 42, 50, 32, 50, 45, 52])))) rfl) rfl rfl rfl ?_
  refine o_and (p := 48) 3 (((Trc.parse (ByteArray.mk #[49, 32, 49, 32, 50, 32, 51, 32, 52])).2) == 0) ?_ ?_ ?_
  · intro hb21 hk
    simp only [Bool.and_eq_true, decide_eq_true_eq, beq_iff_eq] at hb21
    refine o_unguard 45 rfl rfl ?_
    refine o_pure (p_move (v := .int .i64 ((Trc.parse (ByteArray.mk #[49, 32, 49, 32, 50, 32, 51, 32, 52])).2)) rfl) rfl rfl rfl ?_
    refine o_unguard 45 rfl rfl ?_
    refine o_pure (p_eq (p := ((Trc.parse (ByteArray.mk #[49, 32, 49, 32, 50, 32, 51, 32, 52])).2)) (q := 0) rfl rfl) rfl rfl rfl ?_
    refine o_pure (p_pick_true (u := .bool (((Trc.parse (ByteArray.mk #[49, 32, 49, 32, 50, 32, 51, 32, 52])).2) == 0)) rfl rfl) rfl rfl rfl ?_
    exact o_sub (Sub.cons rfl (Sub.skip rfl (Sub.skip rfl (Sub.skip rfl (Sub.skip rfl (Sub.refl _)))))) hk
  · intro hb21 hk
    refine o_guard_no rfl 45 rfl rfl rfl rfl rfl ?_
    refine o_guard_no rfl 45 rfl rfl rfl rfl rfl ?_
    refine o_pure (p_pick_false (v := .bool false) rfl rfl) rfl rfl rfl ?_
    exact o_sub (Sub.cons rfl (Sub.skip rfl (Sub.skip rfl (Sub.skip rfl (Sub.skip rfl (Sub.refl _)))))) hk
  refine o_pure (p_move (v := .bool (((((decide ((Trc.format ([7, 7, 1, 2, 3, 3, 9, 10])) = (ByteArray.mk #[55, 42, 50, 32, 49, 45, 51, 32, 51, 32, 57, 32, 49, 48])) && ((Lru.trace ([7, 7, 1, 2, 3, 3, 9, 10])) == 0)) && (Ref.sameInts ((Trc.parse (ByteArray.mk #[48, 32, 53, 42, 50, 32, 56, 45, 49, 48])).1) ([0, 5, 5, 8, 9, 10]))) && (((Trc.parse (ByteArray.mk #[48, 32, 53, 42, 50, 32, 56, 45, 49, 48])).2) == 0)) && decide ((Trc.compact (ByteArray.mk #[49, 32, 49, 32, 50, 32, 51, 32, 52])) = (ByteArray.mk #[49, 42, 50, 32, 50, 45, 52]))) && (((Trc.parse (ByteArray.mk #[49, 32, 49, 32, 50, 32, 51, 32, 52])).2) == 0))) rfl) rfl rfl rfl ?_
  refine o_and (p := 52) 3 (((Trc.parse (ByteArray.mk #[49, 32, 32, 50])).2) == 1) ?_ ?_ ?_
  · intro hb22 hk
    simp only [Bool.and_eq_true, decide_eq_true_eq, beq_iff_eq] at hb22
    refine o_unguard 49 rfl rfl ?_
    refine o_pure (p_move (v := .int .i64 ((Trc.parse (ByteArray.mk #[49, 32, 32, 50])).2)) rfl) rfl rfl rfl ?_
    refine o_unguard 49 rfl rfl ?_
    refine o_pure (p_eq (p := ((Trc.parse (ByteArray.mk #[49, 32, 32, 50])).2)) (q := 1) rfl rfl) rfl rfl rfl ?_
    refine o_pure (p_pick_true (u := .bool (((Trc.parse (ByteArray.mk #[49, 32, 32, 50])).2) == 1)) rfl rfl) rfl rfl rfl ?_
    exact o_sub (Sub.cons rfl (Sub.skip rfl (Sub.skip rfl (Sub.skip rfl (Sub.skip rfl (Sub.refl _)))))) hk
  · intro hb22 hk
    refine o_guard_no rfl 49 rfl rfl rfl rfl rfl ?_
    refine o_guard_no rfl 49 rfl rfl rfl rfl rfl ?_
    refine o_pure (p_pick_false (v := .bool false) rfl rfl) rfl rfl rfl ?_
    exact o_sub (Sub.cons rfl (Sub.skip rfl (Sub.skip rfl (Sub.skip rfl (Sub.skip rfl (Sub.refl _)))))) hk
  refine o_pure (p_assign (v := .bool ((((((decide ((Trc.format ([7, 7, 1, 2, 3, 3, 9, 10])) = (ByteArray.mk #[55, 42, 50, 32, 49, 45, 51, 32, 51, 32, 57, 32, 49, 48])) && ((Lru.trace ([7, 7, 1, 2, 3, 3, 9, 10])) == 0)) && (Ref.sameInts ((Trc.parse (ByteArray.mk #[48, 32, 53, 42, 50, 32, 56, 45, 49, 48])).1) ([0, 5, 5, 8, 9, 10]))) && (((Trc.parse (ByteArray.mk #[48, 32, 53, 42, 50, 32, 56, 45, 49, 48])).2) == 0)) && decide ((Trc.compact (ByteArray.mk #[49, 32, 49, 32, 50, 32, 51, 32, 52])) = (ByteArray.mk #[49, 42, 50, 32, 50, 45, 52]))) && (((Trc.parse (ByteArray.mk #[49, 32, 49, 32, 50, 32, 51, 32, 52])).2) == 0)) && (((Trc.parse (ByteArray.mk #[49, 32, 32, 50])).2) == 1))) rfl) rfl rfl rfl ?_
  refine o_nil ?_
  refine q_then ?_
  refine c_ret ?_
  have hr0 : (((((((decide ((Trc.format ([7, 7, 1, 2, 3, 3, 9, 10])) = (ByteArray.mk #[55, 42, 50, 32, 49, 45, 51, 32, 51, 32, 57, 32, 49, 48])) && ((Lru.trace ([7, 7, 1, 2, 3, 3, 9, 10])) == 0)) && (Ref.sameInts ((Trc.parse (ByteArray.mk #[48, 32, 53, 42, 50, 32, 56, 45, 49, 48])).1) ([0, 5, 5, 8, 9, 10]))) && (((Trc.parse (ByteArray.mk #[48, 32, 53, 42, 50, 32, 56, 45, 49, 48])).2) == 0)) && decide ((Trc.compact (ByteArray.mk #[49, 32, 49, 32, 50, 32, 51, 32, 52])) = (ByteArray.mk #[49, 42, 50, 32, 50, 45, 52]))) && (((Trc.parse (ByteArray.mk #[49, 32, 49, 32, 50, 32, 51, 32, 52])).2) == 0)) && (((Trc.parse (ByteArray.mk #[49, 32, 32, 50])).2) == 1)) : Bool) = true := by
    first | rfl | (simp only [Trc.format_F, Trc.compact_F]; decide +kernel) | decide +kernel
  refine q_end0 (v := .bool ((((((decide ((Trc.format ([7, 7, 1, 2, 3, 3, 9, 10])) = (ByteArray.mk #[55, 42, 50, 32, 49, 45, 51, 32, 51, 32, 57, 32, 49, 48])) && ((Lru.trace ([7, 7, 1, 2, 3, 3, 9, 10])) == 0)) && (Ref.sameInts ((Trc.parse (ByteArray.mk #[48, 32, 53, 42, 50, 32, 56, 45, 49, 48])).1) ([0, 5, 5, 8, 9, 10]))) && (((Trc.parse (ByteArray.mk #[48, 32, 53, 42, 50, 32, 56, 45, 49, 48])).2) == 0)) && decide ((Trc.compact (ByteArray.mk #[49, 32, 49, 32, 50, 32, 51, 32, 52])) = (ByteArray.mk #[49, 42, 50, 32, 50, 45, 52]))) && (((Trc.parse (ByteArray.mk #[49, 32, 49, 32, 50, 32, 51, 32, 52])).2) == 0)) && (((Trc.parse (ByteArray.mk #[49, 32, 32, 50])).2) == 1))) (rt1 rfl (r_tmp rfl)) (i := 3) rfl ?_
  exact (by have hcc := congrArg (fun (y0 : Bool) => (.bool y0 : Value)) hr0; exact hcc)
end Go.Proofs.YtgkihbbeimhmbaaDoor
