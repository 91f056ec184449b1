/- The walks, printed by a program from the translation and a specification. -/
import Derived.Test.YtagbihjkdejdjaaDpF
import Derived.Test.YtagbihjkdejdjaaDpLaw3
import Derived.Test.YtagbihjkdejdjaaDpW2
namespace Go.Proofs.Ytagbihjkdejdjaa
open Go.Sx Go.RowKit
set_option maxHeartbeats 8000000 in
set_option maxRecDepth 100000 in
theorem deepAt_ok (l : List Int) (al : Option Addr) (cl : Nat) (i : Int) (hy1 : 0 ≤ i ∧ i < (l.length : Int) ∧ l.length ≤ 200) : Fn0 Try.prog 33 [.slice al l.length cl, .int .i64 i] (fun w => Rd tInt w al cl l) (.int .i64 (Deep.deep l i.toNat)) := by
  refine fn0 (nt := 49) (F0 := [(0, .slice al l.length cl), (1, .int .i64 i)]) Try.func33 rfl Try.ntmps33 rfl rfl (fun w0 hpre => ?_)
  have hl := hpre
  have hlhl := hl.2.1
  refine c_seq ?_
  refine c_region ?_
  refine o_pure (p_assign (v := .int .i64 0) rfl) rfl rfl rfl ?_
  refine o_nil ?_
  refine q_then ?_
  refine c_seq ?_
  refine c_region ?_
  refine o_pure (p_move (v := .int .i64 i) rfl) rfl rfl rfl ?_
  refine o_pure (p_subb (p := i) (q := 1) rfl rfl (by omega)) rfl rfl rfl ?_
  refine o_pure (p_assign (v := .int .i64 (i - 1)) rfl) rfl rfl rfl ?_
  refine o_nil ?_
  refine q_then ?_
  refine c_seq ?_
  refine c_block ?_
  refine c_loop (St := Int)
    (fun last => [(0, .slice al l.length cl), (1, .int .i64 i), (5, .int .i64 last)])
    (fun last => [base w0])
    (fun last => Deep.AInv l i last)
    (fun last => (last + 1).toNat)
    (i - 1) ?_ (Sub.cons rfl (Sub.cons rfl (Sub.cons rfl (Sub.nil _)))) (fun _ hw => hw) ?_
  · exact Deep.AInv.start ⟨hy1.1, hy1.2.1⟩
  rintro last hI K hK1
  have hA1 := hI.lo
  have hA2 := hI.hi
  have hA3 := hI.il
  show SC _ _ Try.prog 49 w0 _ _ [(0, .slice al l.length cl), (1, .int .i64 i), (5, .int .i64 last)] [base w0]
  refine c_seq ?_
  refine c_seq ?_
  refine c_draw hmix (by kernel_rfl) ?_
  refine w_pure (p_move (v := .int .i64 last) rfl) rfl rfl rfl ?_
  refine w_pure (p_ge (p := last) (q := 0) rfl rfl) rfl rfl rfl ?_
  refine w_pure (p_move (v := .bool (decide (0 ≤ last))) rfl) rfl rfl rfl ?_
  refine w_and (p := 22) 10 (l[last.toNat] != l[i.toNat]) ?_ ?_ ?_
  · intro hb2 hk
    simp only [decide_eq_true_eq] at hb2
    refine w_unguard 12 rfl rfl ?_
    refine w_pure (p_move (v := .slice al l.length cl) rfl) rfl rfl rfl ?_
    refine w_unguard 12 rfl rfl ?_
    refine w_pure (p_move (v := .int .i64 last) rfl) rfl rfl rfl ?_
    refine w_unguard 12 rfl rfl ?_
    refine w_pure (p_indexAddr (L := l) (T := tInt) (i := last) rfl rfl (rd_base (i := 0) rfl hl) Try.underlying25 sz3 (by omega) (by omega)) rfl rfl rfl ?_
    refine w_unguard 12 rfl rfl ?_
    refine w_pure (p_loadE1 (i := last.toNat) (T := tInt) (L := l) (v := .int .i64 (l[last.toNat])) rfl (rd_base (i := 0) rfl hl) (by first | assumption | omega) sh3 rfl) rfl rfl rfl ?_
    refine w_unguard 12 rfl rfl ?_
    refine w_pure (p_move (v := .slice al l.length cl) rfl) rfl rfl rfl ?_
    refine w_unguard 12 rfl rfl ?_
    refine w_pure (p_move (v := .int .i64 i) rfl) rfl rfl rfl ?_
    refine w_unguard 12 rfl rfl ?_
    refine w_pure (p_indexAddr (L := l) (T := tInt) (i := i) rfl rfl (rd_base (i := 0) rfl hl) Try.underlying25 sz3 (by omega) (by omega)) rfl rfl rfl ?_
    refine w_unguard 12 rfl rfl ?_
    refine w_pure (p_loadE1 (i := i.toNat) (T := tInt) (L := l) (v := .int .i64 (l[i.toNat])) rfl (rd_base (i := 0) rfl hl) (by first | assumption | omega) sh3 rfl) rfl rfl rfl ?_
    refine w_unguard 12 rfl rfl ?_
    refine w_pure (p_ne (p := l[last.toNat]) (q := l[i.toNat]) rfl rfl) rfl rfl rfl ?_
    refine w_pure (p_pick_true (u := .bool (l[last.toNat] != l[i.toNat])) rfl rfl) rfl rfl rfl ?_
    exact w_sub (Sub.cons rfl (Sub.skip rfl (Sub.skip rfl (Sub.skip rfl (Sub.skip rfl (Sub.skip rfl (Sub.skip rfl (Sub.skip rfl (Sub.skip rfl (Sub.skip rfl (Sub.skip rfl (Sub.skip rfl (Sub.refl _))))))))))))) hk
  · intro hb2 hk
    refine w_guard_no rfl 12 rfl rfl rfl rfl rfl ?_
    refine w_guard_no rfl 12 rfl rfl rfl rfl rfl ?_
    refine w_guard_no rfl 12 rfl rfl rfl rfl rfl ?_
    refine w_guard_no rfl 12 rfl rfl rfl rfl rfl ?_
    refine w_guard_no rfl 12 rfl rfl rfl rfl rfl ?_
    refine w_guard_no rfl 12 rfl rfl rfl rfl rfl ?_
    refine w_guard_no rfl 12 rfl rfl rfl rfl rfl ?_
    refine w_guard_no rfl 12 rfl rfl rfl rfl rfl ?_
    refine w_guard_no rfl 12 rfl rfl rfl rfl rfl ?_
    refine w_pure (p_pick_false (v := .bool false) rfl rfl) rfl rfl rfl ?_
    exact w_sub (Sub.cons rfl (Sub.skip rfl (Sub.skip rfl (Sub.skip rfl (Sub.skip rfl (Sub.skip rfl (Sub.skip rfl (Sub.skip rfl (Sub.skip rfl (Sub.skip rfl (Sub.skip rfl (Sub.skip rfl (Sub.refl _))))))))))))) hk
  refine w_nil ?_
  refine q_then ?_
  refine c_cond (b := (decide (0 ≤ last) && (l[last.toNat] != l[i.toNat]))) rfl (fun hc3 => ?_) (fun hc3 => ?_)
  · simp only [Bool.and_eq_true, decide_eq_true_eq, bne_iff_ne, ne_eq] at hc3
    refine c_skip ?_
    refine q_then ?_
    refine c_block ?_
    refine c_region ?_
    refine o_pure (p_move (v := .int .i64 last) rfl) rfl rfl rfl ?_
    refine o_pure (p_subb (p := last) (q := 1) rfl rfl (by omega)) rfl rfl rfl ?_
    refine o_pure (p_assign (v := .int .i64 (last - 1)) rfl) rfl rfl rfl ?_
    refine o_nil ?_
    refine q_block_normal ?_
    refine q_round hK1 (last - 1) ?_ ?_ ?_ ?_
    · clear hK1
      exact hI.next (by omega) (by omega) (by omega) (by simp_all)
    · (try dsimp only); omega
    · exact Sub.cons rfl (Sub.cons rfl (Sub.cons rfl (Sub.nil _)))
    · exact fun _ hw => HeapIs.pick hw [0] (by decide) rfl
  · simp only [Bool.and_eq_false_iff, decide_eq_false_iff_not, Int.not_le, bne_eq_false_iff_eq] at hc3
    have hA := hI
    have hst := hc3
    refine c_exit ?_
    refine q_then_exit (q_then_exit (q_block_exit (q_then ?_)))
    refine c_seq ?_
    refine c_seq ?_
    refine c_region ?_
    refine o_pure (p_move (v := .int .i64 last) rfl) rfl rfl rfl ?_
    refine o_pure (p_lt (p := last) (q := 0) rfl rfl) rfl rfl rfl ?_
    refine o_nil ?_
    refine q_then ?_
    refine c_cond (b := decide (last < 0)) rfl (fun hc4 => ?_) (fun hc4 => ?_)
    · simp only [decide_eq_true_eq] at hc4
      refine c_seq ?_
      refine c_region ?_
      refine o_pure (p_assign (v := .int .i64 0) rfl) rfl rfl rfl ?_
      refine o_nil ?_
      refine q_then ?_
      refine c_ret ?_
      refine q_then_ret ?_
      have hr0 : (0 : Int) = (Deep.deep l i.toNat) := by
        first | exact hI.new (by omega) | exact hI.done hA (by omega) (by omega) (by rcases hst with h | h; omega; exact h) (by omega)
      refine q_end0 (v := .int .i64 0) (rt1 rfl (r_tmp rfl)) (i := 0) rfl ?_
      exact (by have hcc := congrArg (fun (y0 : Int) => (.int .i64 y0 : Value)) hr0; exact hcc)
    · simp only [decide_eq_false_iff_not, Int.not_lt] at hc4
      refine c_skip ?_
      refine q_then ?_
      refine c_seq ?_
      refine c_region ?_
      refine o_pure (p_assign (v := .slice none 0 0) rfl) rfl rfl rfl ?_
      refine o_nil ?_
      refine q_then ?_
      refine c_seq ?_
      refine c_seq ?_
      refine c_region ?_
      refine o_pure (p_move (v := .int .i64 last) rfl) rfl rfl rfl ?_
      refine o_pure (p_assign (v := .int .i64 last) rfl) rfl rfl rfl ?_
      refine o_nil ?_
      refine q_then ?_
      refine c_block ?_
      refine c_ownNil tInt ?_
      refine c_loop (St := List Int × Option Addr × Nat × (Nat → Prop) × Int)
        (fun ⟨unlike, aunlike, cunlike, Sunlike, k⟩ => [(0, .slice al l.length cl), (1, .int .i64 i), (6, .slice aunlike unlike.length cunlike), (7, .int .i64 k)])
        (fun ⟨unlike, aunlike, cunlike, Sunlike, k⟩ => [own tInt Sunlike aunlike cunlike unlike, base w0])
        (fun ⟨unlike, aunlike, cunlike, Sunlike, k⟩ => Deep.UInv l last i unlike k)
        (fun ⟨unlike, aunlike, cunlike, Sunlike, k⟩ => (i - k).toNat)
        ([], none, 0, (fun _ => False), last) ?_ (Sub.cons rfl (Sub.cons rfl (Sub.cons rfl (Sub.cons rfl (Sub.nil _))))) (fun _ hw => hw) ?_
      · exact Deep.UInv.start hA (by omega)
      rintro ⟨unlike, aunlike, cunlike, Sunlike, k⟩ hI K hK6
      have hul := hI.ul
      have hu1 := hI.a0
      have hu2 := hI.le
      have hu3 := hI.ki
      show SC _ _ Try.prog 49 w0 _ _ [(0, .slice al l.length cl), (1, .int .i64 i), (6, .slice aunlike unlike.length cunlike), (7, .int .i64 k)] [own tInt Sunlike aunlike cunlike unlike, base w0]
      refine c_seq ?_
      refine c_seq ?_
      refine c_region ?_
      refine o_pure (p_move (v := .int .i64 k) rfl) rfl rfl rfl ?_
      refine o_pure (p_move (v := .int .i64 i) rfl) rfl rfl rfl ?_
      refine o_pure (p_lt (p := k) (q := i) rfl rfl) rfl rfl rfl ?_
      refine o_nil ?_
      refine q_then ?_
      refine c_cond (b := decide (k < i)) rfl (fun hc7 => ?_) (fun hc7 => ?_)
      · simp only [decide_eq_true_eq] at hc7
        refine c_skip ?_
        refine q_then ?_
        refine c_seq ?_
        refine c_block ?_
        refine c_seq ?_
        refine c_region ?_
        refine o_pure (p_move (v := .slice aunlike unlike.length cunlike) rfl) rfl rfl rfl ?_
        refine o_pure (p_move (v := .slice al l.length cl) rfl) rfl rfl rfl ?_
        refine o_pure (p_move (v := .int .i64 k) rfl) rfl rfl rfl ?_
        refine o_pure (p_indexAddr (L := l) (T := tInt) (i := k) rfl rfl (rd_base (i := 1) rfl hl) Try.underlying25 sz3 (by omega) (by omega)) rfl rfl rfl ?_
        refine o_pure (p_loadE1 (i := k.toNat) (T := tInt) (L := l) (v := .int .i64 (l[k.toNat])) rfl (rd_base (i := 1) rfl hl) (by first | assumption | omega) sh3 rfl) rfl rfl rfl ?_
        refine o_call0 (v := .bool (Ref.hasInt unlike (l[k.toNat]))) rfl (hasInt_ok unlike aunlike cunlike (l[k.toNat])) hf27 (fun w hw => (rd_own (i := 0) rfl) w hw) rfl ?_
        refine o_pure (p_not (b := (Ref.hasInt unlike (l[k.toNat]))) rfl) rfl rfl rfl ?_
        refine o_nil ?_
        refine q_then ?_
        refine c_cond (b := (!(Ref.hasInt unlike (l[k.toNat])))) rfl (fun hc8 => ?_) (fun hc8 => ?_)
        · simp only [Bool.not_eq_true'] at hc8
          refine c_region ?_
          refine o_pure (p_move (v := .slice aunlike unlike.length cunlike) rfl) rfl rfl rfl ?_
          refine o_pure (p_move (v := .slice al l.length cl) rfl) rfl rfl rfl ?_
          refine o_pure (p_move (v := .int .i64 k) rfl) rfl rfl rfl ?_
          refine o_pure (p_indexAddr (L := l) (T := tInt) (i := k) rfl rfl (rd_base (i := 1) rfl hl) Try.underlying25 sz3 (by omega) (by omega)) rfl rfl rfl ?_
          refine o_pure (p_loadE1 (i := k.toNat) (T := tInt) (L := l) (v := .int .i64 (l[k.toNat])) rfl (rd_base (i := 1) rfl hl) (by first | assumption | omega) sh3 rfl) rfl rfl rfl ?_
          refine o_buildSlice (m := 1) (T := tInt) (L := [l[k.toNat]]) (vs := [.int .i64 (l[k.toNat])]) rfl rfl rfl rfl Try.underlying25 sz3 (by decide) ze3 rfl (by decide) rfl (fun S9 a10 => ?_)
          refine o_append (i := 1) (L := unlike) (M := [l[k.toNat]]) (T := tInt) rfl rfl rfl (rd_own (i := 0) rfl) Try.underlying25 Try.underlying25 (by intro k h; cases h) el3 (by intro z; simp [tInt, one1]) (by decide) (by first | omega | (simp only [List.length_cons, List.length_nil]; omega) | (simp only [List.length_append, List.length_cons, List.length_nil, List.length_take, List.length_drop]; omega)) rfl (fun a12 c13 S14 => ?_)
          refine o_pure (p_assign (v := .slice a12 (unlike ++ [l[k.toNat]]).length c13) rfl) rfl rfl rfl ?_
          refine o_nil ?_
          refine q_block_normal (q_then ?_)
          refine c_region ?_
          refine o_pure (p_move (v := .int .i64 k) rfl) rfl rfl rfl ?_
          refine o_pure (p_addb (p := k) (q := 1) rfl rfl (by omega)) rfl rfl rfl ?_
          refine o_pure (p_assign (v := .int .i64 (k + 1)) rfl) rfl rfl rfl ?_
          refine o_nil ?_
          refine q_round hK6 ((unlike ++ [l[k.toNat]]), a12, c13, S14, (k + 1)) ?_ ?_ ?_ ?_
          · clear hK6
            first | exact hI.add (by omega) (by omega) (by assumption) | exact hI.not (by omega) (by omega) (by assumption)
          · (try dsimp only); omega
          · exact Sub.cons rfl (Sub.cons rfl (Sub.cons rfl (Sub.cons rfl (Sub.nil _))))
          · exact fun _ hw => HeapIs.pick hw [1, 2] (by decide) rfl
        · simp only [Bool.not_eq_false'] at hc8
          refine c_skip ?_
          refine q_block_normal (q_then ?_)
          refine c_region ?_
          refine o_pure (p_move (v := .int .i64 k) rfl) rfl rfl rfl ?_
          refine o_pure (p_addb (p := k) (q := 1) rfl rfl (by omega)) rfl rfl rfl ?_
          refine o_pure (p_assign (v := .int .i64 (k + 1)) rfl) rfl rfl rfl ?_
          refine o_nil ?_
          refine q_round hK6 (unlike, aunlike, cunlike, Sunlike, (k + 1)) ?_ ?_ ?_ ?_
          · clear hK6
            first | exact hI.add (by omega) (by omega) (by assumption) | exact hI.not (by omega) (by omega) (by assumption)
          · (try dsimp only); omega
          · exact Sub.cons rfl (Sub.cons rfl (Sub.cons rfl (Sub.cons rfl (Sub.nil _))))
          · exact fun _ hw => HeapIs.pick hw [0, 1] (by decide) rfl
      · simp only [decide_eq_false_iff_not, Int.not_lt] at hc7
        refine c_exit ?_
        refine q_then_exit (q_then_exit (q_block_exit (q_then ?_)))
        refine c_seq ?_
        refine c_region ?_
        refine o_pure (p_move (v := .slice aunlike unlike.length cunlike) rfl) rfl rfl rfl ?_
        refine o_pure (p_len_slice (len := unlike.length) rfl rfl Try.underlying25) rfl rfl rfl ?_
        refine o_pure (p_assign (v := .int .i64 (unlike.length : Int)) rfl) rfl rfl rfl ?_
        refine o_nil ?_
        refine q_then ?_
        refine c_ret ?_
        have hr0 : ((unlike.length : Int) : Int) = (Deep.deep l i.toNat) := by
          first | exact hI.new (by omega) | exact hI.done hA (by omega) (by omega) (by rcases hst with h | h; omega; exact h) (by omega)
        refine q_end0 (v := .int .i64 (unlike.length : Int)) (rt1 rfl (r_tmp rfl)) (i := 1) rfl ?_
        exact (by have hcc := congrArg (fun (y0 : Int) => (.int .i64 y0 : Value)) hr0; exact hcc)

set_option maxHeartbeats 8000000 in
set_option maxRecDepth 100000 in
theorem deepHits_ok (l : List Int) (al : Option Addr) (cl : Nat) (room : Int) (hy1 : l.length ≤ 200) : Fn0 Try.prog 34 [.slice al l.length cl, .int .i64 room] (fun w => Rd tInt w al cl l) (.int .i64 (Deep.hitsAt l room)) := by
  refine fn0 (nt := 27) (F0 := [(0, .slice al l.length cl), (1, .int .i64 room)]) Try.func34 rfl Try.ntmps34 rfl rfl (fun w0 hpre => ?_)
  have hl := hpre
  have hlhl := hl.2.1
  refine c_seq ?_
  refine c_region ?_
  refine o_pure (p_assign (v := .int .i64 0) rfl) rfl rfl rfl ?_
  refine o_nil ?_
  refine q_then ?_
  refine c_seq ?_
  refine c_region ?_
  refine o_pure (p_assign (v := .int .i64 0) rfl) rfl rfl rfl ?_
  refine o_nil ?_
  refine q_then ?_
  refine c_seq ?_
  refine c_seq ?_
  refine c_region ?_
  refine o_pure (p_assign (v := .int .i64 0) rfl) rfl rfl rfl ?_
  refine o_nil ?_
  refine q_then ?_
  refine c_block ?_
  refine c_loop (St := Int × Nat)
    (fun ⟨n, i⟩ => [(0, .slice al l.length cl), (1, .int .i64 room), (5, .int .i64 n), (6, .int .i64 (i : Int))])
    (fun ⟨n, i⟩ => [base w0])
    (fun ⟨n, i⟩ => Deep.NInv l room n i)
    (fun ⟨n, i⟩ => l.length - i)
    (0, 0) ?_ (Sub.cons rfl (Sub.cons rfl (Sub.cons rfl (Sub.cons rfl (Sub.nil _))))) (fun _ hw => hw) ?_
  · exact Deep.NInv.start _ _
  rintro ⟨n, i⟩ hI K hK1
  have hnb := hI.bd
  have hnl := hI.le
  show SC _ _ Try.prog 27 w0 _ _ [(0, .slice al l.length cl), (1, .int .i64 room), (5, .int .i64 n), (6, .int .i64 (i : Int))] [base w0]
  refine c_seq ?_
  refine c_seq ?_
  refine c_region ?_
  refine o_pure (p_move (v := .int .i64 (i : Int)) rfl) rfl rfl rfl ?_
  refine o_pure (p_move (v := .slice al l.length cl) rfl) rfl rfl rfl ?_
  refine o_pure (p_len_slice (len := l.length) rfl rfl Try.underlying25) rfl rfl rfl ?_
  refine o_pure (p_lt (p := (i : Int)) (q := (l.length : Int)) rfl rfl) rfl rfl rfl ?_
  refine o_nil ?_
  refine q_then ?_
  refine c_cond (b := decide ((i : Int) < (l.length : Int))) rfl (fun hc2 => ?_) (fun hc2 => ?_)
  · simp only [decide_eq_true_eq] at hc2
    refine c_skip ?_
    refine q_then ?_
    refine c_seq ?_
    refine c_block ?_
    refine c_seq ?_
    refine c_region ?_
    refine o_pure (p_move (v := .slice al l.length cl) rfl) rfl rfl rfl ?_
    refine o_pure (p_move (v := .int .i64 (i : Int)) rfl) rfl rfl rfl ?_
    refine o_call0 (v := .int .i64 (Deep.deep l (i : Int).toNat)) rfl (deepAt_ok l al cl (i : Int) (by omega)) hf33 (fun w hw => (rd_base (i := 0) rfl hl) w hw) rfl ?_
    refine o_pure (p_assign (v := .int .i64 (Deep.deep l (i : Int).toNat)) rfl) rfl rfl rfl ?_
    refine o_nil ?_
    refine q_then ?_
    refine c_seq ?_
    refine c_region ?_
    refine o_pure (p_move (v := .int .i64 (Deep.deep l (i : Int).toNat)) rfl) rfl rfl rfl ?_
    refine o_pure (p_gt (p := (Deep.deep l (i : Int).toNat)) (q := 0) rfl rfl) rfl rfl rfl ?_
    refine o_pure (p_move (v := .bool (decide (0 < (Deep.deep l (i : Int).toNat)))) rfl) rfl rfl rfl ?_
    refine o_and (p := 23) 4 (decide ((Deep.deep l (i : Int).toNat) ≤ room)) ?_ ?_ ?_
    · intro hb3 hk
      simp only [decide_eq_true_eq] at hb3
      refine o_unguard 19 rfl rfl ?_
      refine o_pure (p_move (v := .int .i64 (Deep.deep l (i : Int).toNat)) rfl) rfl rfl rfl ?_
      refine o_unguard 19 rfl rfl ?_
      refine o_pure (p_move (v := .int .i64 room) rfl) rfl rfl rfl ?_
      refine o_unguard 19 rfl rfl ?_
      refine o_pure (p_le (p := (Deep.deep l (i : Int).toNat)) (q := room) rfl rfl) rfl rfl rfl ?_
      refine o_pure (p_pick_true (u := .bool (decide ((Deep.deep l (i : Int).toNat) ≤ room))) rfl rfl) rfl rfl rfl ?_
      exact o_sub (Sub.cons rfl (Sub.skip rfl (Sub.skip rfl (Sub.skip rfl (Sub.skip rfl (Sub.skip rfl (Sub.refl _))))))) hk
    · intro hb3 hk
      refine o_guard_no rfl 19 rfl rfl rfl rfl rfl ?_
      refine o_guard_no rfl 19 rfl rfl rfl rfl rfl ?_
      refine o_guard_no rfl 19 rfl rfl rfl rfl rfl ?_
      refine o_pure (p_pick_false (v := .bool false) rfl rfl) rfl rfl rfl ?_
      exact o_sub (Sub.cons rfl (Sub.skip rfl (Sub.skip rfl (Sub.skip rfl (Sub.skip rfl (Sub.skip rfl (Sub.refl _))))))) hk
    refine o_nil ?_
    refine q_then ?_
    refine c_cond (b := (decide (0 < (Deep.deep l (i : Int).toNat)) && decide ((Deep.deep l (i : Int).toNat) ≤ room))) rfl (fun hc4 => ?_) (fun hc4 => ?_)
    · simp only [Bool.and_eq_true, decide_eq_true_eq] at hc4
      refine c_region ?_
      refine o_pure (p_move (v := .int .i64 n) rfl) rfl rfl rfl ?_
      refine o_pure (p_addb (p := n) (q := 1) rfl rfl (by omega)) rfl rfl rfl ?_
      refine o_pure (p_assign (v := .int .i64 (n + 1)) rfl) rfl rfl rfl ?_
      refine o_nil ?_
      refine q_block_normal (q_then ?_)
      refine c_region ?_
      refine o_pure (p_move (v := .int .i64 (i : Int)) rfl) rfl rfl rfl ?_
      refine o_pure (p_addb (p := (i : Int)) (q := 1) rfl rfl (by omega)) rfl rfl rfl ?_
      refine o_pure (p_assign (v := .int .i64 ((i : Int) + 1)) rfl) rfl rfl rfl ?_
      refine o_nil ?_
      refine q_round hK1 ((n + 1), i + 1) ?_ ?_ ?_ ?_
      · clear hK1
        first | exact hI.yes (by omega) (by omega) (by omega) | exact hI.no (by omega) (by omega)
      · (try dsimp only); omega
      · exact Sub.cons rfl (Sub.cons rfl (Sub.cons rfl (Sub.cons rfl (Sub.nil _))))
      · exact fun _ hw => HeapIs.pick hw [0] (by decide) rfl
    · simp only [Bool.and_eq_false_iff, decide_eq_false_iff_not, Int.not_lt, Int.not_le] at hc4
      refine c_skip ?_
      refine q_block_normal (q_then ?_)
      refine c_region ?_
      refine o_pure (p_move (v := .int .i64 (i : Int)) rfl) rfl rfl rfl ?_
      refine o_pure (p_addb (p := (i : Int)) (q := 1) rfl rfl (by omega)) rfl rfl rfl ?_
      refine o_pure (p_assign (v := .int .i64 ((i : Int) + 1)) rfl) rfl rfl rfl ?_
      refine o_nil ?_
      refine q_round hK1 (n, i + 1) ?_ ?_ ?_ ?_
      · clear hK1
        first | exact hI.yes (by omega) (by omega) (by omega) | exact hI.no (by omega) (by omega)
      · (try dsimp only); omega
      · exact Sub.cons rfl (Sub.cons rfl (Sub.cons rfl (Sub.cons rfl (Sub.nil _))))
      · exact fun _ hw => HeapIs.pick hw [0] (by decide) rfl
  · simp only [decide_eq_false_iff_not, Int.not_lt] at hc2
    refine c_exit ?_
    refine q_then_exit (q_then_exit (q_block_exit (q_then ?_)))
    refine c_seq ?_
    refine c_region ?_
    refine o_pure (p_move (v := .int .i64 n) rfl) rfl rfl rfl ?_
    refine o_pure (p_assign (v := .int .i64 n) rfl) rfl rfl rfl ?_
    refine o_nil ?_
    refine q_then ?_
    refine c_ret ?_
    have hr0 : (n : Int) = (Deep.hitsAt l room) := by
      exact hI.done (by omega)
    refine q_end0 (v := .int .i64 n) (rt1 rfl (r_tmp rfl)) (i := 0) rfl ?_
    exact (by have hcc := congrArg (fun (y0 : Int) => (.int .i64 y0 : Value)) hr0; exact hcc)
end Go.Proofs.Ytagbihjkdejdjaa
