/- The walks, printed by a program from the translation and a specification. -/
import Derived.Test.YtkndekkacimekaaTsF
import Derived.Test.YtkndekkacimekaaOpLaw2
import Derived.Test.YtkndekkacimekaaWsPure
namespace Go.Proofs.Ytkndekkacimekaa
open Go.Sx Go.RowKit
set_option maxHeartbeats 8000000 in
set_option maxRecDepth 100000 in
theorem farthest_ok (m : List (Int × Int)) (Bm : Nat) (hy1 : ∀ p ∈ m, 0 ≤ p.2) : Fn0 Try.prog 79 [.map (some Bm)] (fun w => MapIs kInt (fun z : Int => .int .i64 z) Bm m w) (.int .i64 (Opt.far m)) := by
  refine fn0 (nt := 30) (F0 := [(0, .map (some Bm))]) Try.func79 rfl Try.ntmps79 rfl rfl (fun w0 hpre => ?_)
  have hm := hpre
  obtain ⟨es_hm, cl_hm, hm_1, hm_2, hm_3⟩ : ∃ es c, _ ∧ _ ∧ _ := hm
  refine c_seq ?_
  refine c_region ?_
  refine o_pure (p_assign (v := .int .i64 0) rfl) rfl rfl rfl ?_
  refine o_nil ?_
  refine q_then ?_
  refine c_seq ?_
  refine c_region ?_
  refine o_pure (p_assign (v := .int .i64 (-1)) rfl) rfl rfl rfl ?_
  refine o_pure (p_assign (v := .int .i64 (-1)) rfl) rfl rfl rfl ?_
  refine o_nil ?_
  refine q_then ?_
  refine c_seq ?_
  refine c_seq ?_
  refine c_region ?_
  refine o_pure (p_move (v := .map (some Bm)) rfl) rfl rfl rfl ?_
  refine o_range (K := kInt) (ve := (fun z : Int => .int .i64 z)) (m := m) rfl (blk_base (i := 0) rfl hm_1) hm_2 hm_3 Try.underlying117 rfl (fun B1 => ?_)
  refine o_nil ?_
  refine q_then ?_
  refine c_block ?_
  refine c_loop (St := Int × Int × List (Int × Int) × Option (Int × Int))
    (fun ⟨best, when_, lf, lfc⟩ => [(3, .int .i64 best), (4, .int .i64 when_), (8, .pointer (some ⟨B1, 0, none⟩))])
    (fun ⟨best, when_, lf, lfc⟩ => [iterE kInt (fun z : Int => .int .i64 z) B1 Bm es_hm cl_hm lf lfc, base w0])
    (fun ⟨best, when_, lf, lfc⟩ => Opt.FI m lf best when_)
    (fun ⟨best, when_, lf, lfc⟩ => lf.length)
    ((-1), (-1), m, none) ?_ (Sub.cons rfl (Sub.cons rfl (Sub.cons rfl (Sub.nil _)))) (fun _ hw => hw) ?_
  · exact Opt.FI.start m
  rintro ⟨best, when_, lf, lfc⟩ hI K hK2
  show SC _ _ Try.prog 30 w0 _ _ [(3, .int .i64 best), (4, .int .i64 when_), (8, .pointer (some ⟨B1, 0, none⟩))] [iterE kInt (fun z : Int => .int .i64 z) B1 Bm es_hm cl_hm lf lfc, base w0]
  refine c_seq ?_
  refine c_region ?_
  refine o_next (i := 0) rfl rfl (blk_base (i := 1) rfl hm_1) hm_3 rfl ?_ ?_
  · intro hnil
    refine o_pure (p_extract (vs := [.bool false]) (v := .bool false) rfl rfl) rfl rfl rfl ?_
    refine o_nil ?_
    refine q_then ?_
    refine c_seq ?_
    refine c_false rfl ?_
    refine c_exit ?_
    refine q_then_exit (q_then_exit (q_block_exit (q_then ?_)))
    refine c_seq ?_
    refine c_region ?_
    refine o_pure (p_move (v := .int .i64 best) rfl) rfl rfl rfl ?_
    refine o_pure (p_assign (v := .int .i64 best) rfl) rfl rfl rfl ?_
    refine o_nil ?_
    refine q_then ?_
    refine c_ret ?_
    have hr0 : (best : Int) = (Opt.far m) := by
      exact hI.done hnil hy1
    refine q_end0 (v := .int .i64 best) (rt1 rfl (r_tmp rfl)) (i := 1) rfl ?_
    exact (by have hcc := congrArg (fun (y0 : Int) => (.int .i64 y0 : Value)) hr0; exact hcc)
  · rintro xe xA xC hxs
    refine o_pure (p_extract (vs := [.bool true, .int .i64 xe.1, .int .i64 xe.2]) (v := .bool true) rfl rfl) rfl rfl rfl ?_
    refine o_nil ?_
    refine q_then ?_
    refine c_seq ?_
    refine c_true rfl ?_
    refine c_skip ?_
    refine q_then ?_
    refine c_block ?_
    refine c_seq ?_
    refine c_region ?_
    refine o_pure (p_entry (K := kInt) (ve := (fun z : Int => .int .i64 z)) (p := xe) (i := 0) rfl rfl (blk_base (i := 1) rfl hm_1) hm_3) rfl rfl rfl ?_
    refine o_pure (p_extract (vs := [.int .i64 xe.1, .int .i64 xe.2]) (v := .int .i64 xe.1) rfl rfl) rfl rfl rfl ?_
    refine o_pure (p_extract (vs := [.int .i64 xe.1, .int .i64 xe.2]) (v := .int .i64 xe.2) rfl rfl) rfl rfl rfl ?_
    refine o_pure (p_assign (v := .int .i64 xe.1) rfl) rfl rfl rfl ?_
    refine o_pure (p_assign (v := .int .i64 xe.2) rfl) rfl rfl rfl ?_
    refine o_nil ?_
    refine q_then ?_
    refine c_seq ?_
    refine c_region ?_
    refine o_pure (p_move (v := .int .i64 xe.2) rfl) rfl rfl rfl ?_
    refine o_pure (p_move (v := .int .i64 when_) rfl) rfl rfl rfl ?_
    refine o_pure (p_gt (p := xe.2) (q := when_) rfl rfl) rfl rfl rfl ?_
    refine o_pure (p_move (v := .bool (decide (when_ < xe.2))) rfl) rfl rfl rfl ?_
    refine o_or (p := 26) 9 ((xe.2 == when_) && decide (xe.1 < best)) ?_ ?_ ?_
    · intro hb3 hk
      simp only [decide_eq_false_iff_not, Int.not_lt] at hb3
      refine o_unguard 17 rfl rfl ?_
      refine o_pure (p_move (v := .int .i64 xe.2) rfl) rfl rfl rfl ?_
      refine o_unguard 17 rfl rfl ?_
      refine o_pure (p_move (v := .int .i64 when_) rfl) rfl rfl rfl ?_
      refine o_unguard 17 rfl rfl ?_
      refine o_pure (p_eq (p := xe.2) (q := when_) rfl rfl) rfl rfl rfl ?_
      refine o_unguard 17 rfl rfl ?_
      refine o_pure (p_move (v := .bool (xe.2 == when_)) rfl) rfl rfl rfl ?_
      refine o_and (p := 25) 4 (decide (xe.1 < best)) ?_ ?_ ?_
      · intro hb4 hk
        simp only [beq_iff_eq] at hb4
        refine o_unguard 21 rfl rfl ?_
        refine o_pure (p_move (v := .int .i64 xe.1) rfl) rfl rfl rfl ?_
        refine o_unguard 21 rfl rfl ?_
        refine o_pure (p_move (v := .int .i64 best) rfl) rfl rfl rfl ?_
        refine o_unguard 21 rfl rfl ?_
        refine o_pure (p_lt (p := xe.1) (q := best) rfl rfl) rfl rfl rfl ?_
        refine o_unguard 17 rfl rfl ?_
        refine o_pure (p_pick_true (u := .bool (decide (xe.1 < best))) rfl rfl) rfl rfl rfl ?_
        exact o_sub (Sub.cons rfl (Sub.skip rfl (Sub.skip rfl (Sub.skip rfl (Sub.skip rfl (Sub.skip rfl (Sub.refl _))))))) hk
      · intro hb4 hk
        refine o_guard_no rfl 21 rfl rfl rfl rfl rfl ?_
        refine o_guard_no rfl 21 rfl rfl rfl rfl rfl ?_
        refine o_guard_no rfl 21 rfl rfl rfl rfl rfl ?_
        refine o_unguard 17 rfl rfl ?_
        refine o_pure (p_pick_false (v := .bool false) rfl rfl) rfl rfl rfl ?_
        exact o_sub (Sub.cons rfl (Sub.skip rfl (Sub.skip rfl (Sub.skip rfl (Sub.skip rfl (Sub.skip rfl (Sub.refl _))))))) hk
      refine o_pure (p_pick_false (v := .bool ((xe.2 == when_) && decide (xe.1 < best))) rfl rfl) rfl rfl rfl ?_
      exact o_sub (Sub.cons rfl (Sub.skip rfl (Sub.skip rfl (Sub.skip rfl (Sub.skip rfl (Sub.skip rfl (Sub.skip rfl (Sub.refl _)))))))) hk
    · intro hb3 hk
      refine o_guard_no rfl 17 rfl rfl rfl rfl rfl ?_
      refine o_guard_no rfl 17 rfl rfl rfl rfl rfl ?_
      refine o_guard_no rfl 17 rfl rfl rfl rfl rfl ?_
      refine o_guard_no rfl 17 rfl rfl rfl rfl rfl ?_
      refine o_guard_no rfl 21 rfl rfl rfl rfl rfl ?_
      refine o_guard_no rfl 21 rfl rfl rfl rfl rfl ?_
      refine o_guard_no rfl 21 rfl rfl rfl rfl rfl ?_
      refine o_guard_no rfl 17 rfl rfl rfl rfl rfl ?_
      refine o_pure (p_pick_true (u := .bool true) rfl rfl) rfl rfl rfl ?_
      exact o_sub (Sub.cons rfl (Sub.skip rfl (Sub.skip rfl (Sub.skip rfl (Sub.skip rfl (Sub.skip rfl (Sub.skip rfl (Sub.skip rfl (Sub.skip rfl (Sub.skip rfl (Sub.skip rfl (Sub.refl _)))))))))))) hk
    refine o_nil ?_
    refine q_then ?_
    refine c_cond (b := (decide (when_ < xe.2) || ((xe.2 == when_) && decide (xe.1 < best)))) rfl (fun hc5 => ?_) (fun hc5 => ?_)
    · simp only [Bool.or_eq_true, decide_eq_true_eq, Bool.and_eq_true, beq_iff_eq] at hc5
      have hpk := hc5
      refine c_region ?_
      refine o_pure (p_move (v := .int .i64 xe.1) rfl) rfl rfl rfl ?_
      refine o_pure (p_move (v := .int .i64 xe.2) rfl) rfl rfl rfl ?_
      refine o_pure (p_assign (v := .int .i64 xe.1) rfl) rfl rfl rfl ?_
      refine o_pure (p_assign (v := .int .i64 xe.2) rfl) rfl rfl rfl ?_
      refine o_nil ?_
      refine q_block_normal ?_
      refine q_round hK2 (xe.1, xe.2, (xA ++ xC), (some xe)) ?_ ?_ ?_ ?_
      · clear hK2
        first | exact hI.take_ hxs hy1 (by omega) | exact hI.skip hxs hy1 (by omega)
      · (try dsimp only); rw [hxs]; simp only [List.length_append, List.length_cons]; omega
      · exact Sub.cons rfl (Sub.cons rfl (Sub.cons rfl (Sub.nil _)))
      · exact fun _ hw => HeapIs.pick hw [0, 1] (by decide) rfl
    · simp only [Bool.or_eq_false_iff, decide_eq_false_iff_not, Int.not_lt, Bool.and_eq_false_iff, beq_eq_false_iff_ne, ne_eq] at hc5
      have hpk := hc5
      refine c_skip ?_
      refine q_block_normal ?_
      refine q_round hK2 (best, when_, (xA ++ xC), (some xe)) ?_ ?_ ?_ ?_
      · clear hK2
        first | exact hI.take_ hxs hy1 (by omega) | exact hI.skip hxs hy1 (by omega)
      · (try dsimp only); rw [hxs]; simp only [List.length_append, List.length_cons]; omega
      · exact Sub.cons rfl (Sub.cons rfl (Sub.cons rfl (Sub.nil _)))
      · exact fun _ hw => HeapIs.pick hw [0, 1] (by decide) rfl
end Go.Proofs.Ytkndekkacimekaa
