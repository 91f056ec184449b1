/- The walks, printed by a program from the translation and a specification. -/
import Derived.Test.YtkndekkacimekaaDpF
import Derived.Test.YtkndekkacimekaaDpLaw3
import Derived.Test.YtkndekkacimekaaDpW8
namespace Go.Proofs.Ytkndekkacimekaa
open Go.Sx Go.RowKit
set_option maxHeartbeats 8000000 in
set_option maxRecDepth 100000 in
theorem distanceRepeat_ok (l : List Int) (al : Option Addr) (cl : Nat) (hy1 : l.length ≤ 1048576) : Fn0 Try.prog 7 [.slice al l.length cl] (fun w => Rd tInt w al cl l) (.bool true) := by
  refine fn0 (nt := 135) (F0 := [(0, .slice al l.length cl)]) Try.func7 rfl Try.ntmps7 rfl rfl (fun w0 hpre => ?_)
  have hl := hpre
  have hlhl := hl.2.1
  refine c_seq ?_
  refine c_region ?_
  refine o_pure (p_assign (v := .bool false) rfl) rfl rfl rfl ?_
  refine o_nil ?_
  refine q_then ?_
  refine c_seq ?_
  refine c_region ?_
  refine o_pure (p_move (v := .slice al l.length cl) rfl) rfl rfl rfl ?_
  refine o_callM rfl (distances_ok l al cl) hf28 (fun w hw => (rd_base (i := 0) rfl hl) w hw) rfl (fun _ _ _ _ ha hA => SlO.agree ha hA) ?_
  rintro ⟨a3, c4⟩ S1
  refine o_know (fun w hw => own_len (i := 0) (T := tInt) hw rfl) (fun hlr5 => ?_)
  refine o_pure (p_move (v := .tuple #[.slice a3 (Deep.dist l).length c4, .int .i64 (Lru.trace l)]) rfl) rfl rfl rfl ?_
  refine o_pure (p_extract (vs := [.slice a3 (Deep.dist l).length c4, .int .i64 (Lru.trace l)]) (v := .slice a3 (Deep.dist l).length c4) rfl rfl) rfl rfl rfl ?_
  refine o_pure (p_extract (vs := [.slice a3 (Deep.dist l).length c4, .int .i64 (Lru.trace l)]) (v := .int .i64 (Lru.trace l)) rfl rfl) rfl rfl rfl ?_
  refine o_pure (p_assign (v := .slice a3 (Deep.dist l).length c4) rfl) rfl rfl rfl ?_
  refine o_pure (p_assign (v := .int .i64 (Lru.trace l)) rfl) rfl rfl rfl ?_
  refine o_nil ?_
  refine q_then ?_
  refine c_seq ?_
  refine c_region ?_
  refine o_buildSlice (m := 0) (T := tInt) (L := []) (vs := []) rfl rfl rfl rfl Try.underlying30 sz3 (by decide) ze3 rfl (by decide) rfl (fun S6 a7 => ?_)
  refine o_pure (p_move (v := .slice al l.length cl) rfl) rfl rfl rfl ?_
  refine o_append (i := 0) (L := []) (M := l) (T := tInt) rfl rfl rfl (rd_base (i := 2) rfl hl) Try.underlying30 Try.underlying30 (by intro k h; cases h) el3 (by intro z; simp [tInt, one1]) (by decide) (by first | omega | (simp only [List.length_nil]; omega) | (simp only [List.length_append]; omega) | (simp only [List.length_cons, List.length_nil]; omega)) rfl (fun a9 c10 S11 => ?_)
  refine o_pure (p_move (v := .slice al l.length cl) rfl) rfl rfl rfl ?_
  refine o_append (i := 0) (L := l) (M := l) (T := tInt) rfl rfl rfl (rd_base (i := 2) rfl hl) Try.underlying30 Try.underlying30 (by intro k h; cases h) el3 (by intro z; simp [tInt, one1]) (by decide) (by first | omega | (simp only [List.length_nil]; omega) | (simp only [List.length_append]; omega) | (simp only [List.length_cons, List.length_nil]; omega)) rfl (fun a12 c13 S14 => ?_)
  refine o_callM rfl (distances_ok (l ++ l) a12 c13) hf28 (fun w hw => (rd_own (i := 0) rfl) w hw) rfl (fun _ _ _ _ ha hA => SlO.agree ha hA) ?_
  rintro ⟨a17, c18⟩ S15
  refine o_know (fun w hw => own_len (i := 0) (T := tInt) hw rfl) (fun hlr19 => ?_)
  refine o_pure (p_move (v := .tuple #[.slice a17 (Deep.dist (l ++ l)).length c18, .int .i64 (Lru.trace (l ++ l))]) rfl) rfl rfl rfl ?_
  refine o_pure (p_extract (vs := [.slice a17 (Deep.dist (l ++ l)).length c18, .int .i64 (Lru.trace (l ++ l))]) (v := .slice a17 (Deep.dist (l ++ l)).length c18) rfl rfl) rfl rfl rfl ?_
  refine o_pure (p_extract (vs := [.slice a17 (Deep.dist (l ++ l)).length c18, .int .i64 (Lru.trace (l ++ l))]) (v := .int .i64 (Lru.trace (l ++ l))) rfl rfl) rfl rfl rfl ?_
  refine o_pure (p_assign (v := .slice a17 (Deep.dist (l ++ l)).length c18) rfl) rfl rfl rfl ?_
  refine o_pure (p_assign (v := .int .i64 (Lru.trace (l ++ l))) rfl) rfl rfl rfl ?_
  refine o_nil ?_
  refine q_then ?_
  refine c_seq ?_
  refine c_seq ?_
  refine c_region ?_
  refine o_call0 (v := .bool true) rfl (deepBegun_ok ) hf29 (fun _ _ => trivial) rfl ?_
  refine o_pure (p_not (b := true) rfl) rfl rfl rfl ?_
  refine o_nil ?_
  refine q_then ?_
  refine c_false rfl ?_
  refine c_skip ?_
  refine q_then ?_
  refine c_seq ?_
  refine c_seq ?_
  refine c_region ?_
  refine o_pure (p_move (v := .int .i64 (Lru.trace l)) rfl) rfl rfl rfl ?_
  refine o_pure (p_ne (p := (Lru.trace l)) (q := 0) rfl rfl) rfl rfl rfl ?_
  refine o_pure (p_move (v := .bool ((Lru.trace l) != 0)) rfl) rfl rfl rfl ?_
  refine o_or (p := 31) 3 ((Lru.trace (l ++ l)) != 0) ?_ ?_ ?_
  · intro hb20 hk
    simp only [bne_eq_false_iff_eq] at hb20
    refine o_unguard 28 rfl rfl ?_
    refine o_pure (p_move (v := .int .i64 (Lru.trace (l ++ l))) rfl) rfl rfl rfl ?_
    refine o_unguard 28 rfl rfl ?_
    refine o_pure (p_ne (p := (Lru.trace (l ++ l))) (q := 0) rfl rfl) rfl rfl rfl ?_
    refine o_pure (p_pick_false (v := .bool ((Lru.trace (l ++ l)) != 0)) rfl rfl) rfl rfl rfl ?_
    exact o_sub (Sub.cons rfl (Sub.skip rfl (Sub.skip rfl (Sub.skip rfl (Sub.skip rfl (Sub.refl _)))))) hk
  · intro hb20 hk
    refine o_guard_no rfl 28 rfl rfl rfl rfl rfl ?_
    refine o_guard_no rfl 28 rfl rfl rfl rfl rfl ?_
    refine o_pure (p_pick_true (u := .bool true) rfl rfl) rfl rfl rfl ?_
    exact o_sub (Sub.cons rfl (Sub.skip rfl (Sub.skip rfl (Sub.skip rfl (Sub.skip rfl (Sub.refl _)))))) hk
  refine o_nil ?_
  refine q_then ?_
  refine c_cond (b := (((Lru.trace l) != 0) || ((Lru.trace (l ++ l)) != 0))) rfl (fun hc21 => ?_) (fun hc21 => ?_)
  · simp only [Bool.or_eq_true, bne_iff_ne, ne_eq] at hc21
    have hbad := hc21
    refine c_seq ?_
    refine c_region ?_
    refine o_pure (p_move (v := .int .i64 (Lru.trace (l ++ l))) rfl) rfl rfl rfl ?_
    refine o_pure (p_ne (p := (Lru.trace (l ++ l))) (q := 0) rfl rfl) rfl rfl rfl ?_
    refine o_pure (p_assign (v := .bool ((Lru.trace (l ++ l)) != 0)) rfl) rfl rfl rfl ?_
    refine o_nil ?_
    refine q_then ?_
    refine c_ret ?_
    refine q_then_ret ?_
    have hr0 : (((Lru.trace (l ++ l)) != 0) : Bool) = true := by
      first | rfl | (rcases hbad with h | h; exact bne_iff_ne.2 fun h2 => h (Deep.twice_ok h2); exact bne_iff_ne.2 h) | (rw [hla]; simp [hlb]; omega)
    refine q_end0 (v := .bool ((Lru.trace (l ++ l)) != 0)) (rt1 rfl (r_tmp rfl)) (i := 3) rfl ?_
    exact (by have hcc := congrArg (fun (y0 : Bool) => (.bool y0 : Value)) hr0; exact hcc)
  · simp only [Bool.or_eq_false_iff, bne_eq_false_iff_eq] at hc21
    have ht := hc21.2
    have h200 := Deep.len200 hc21.1
    have hla := Deep.dist_len hc21.1
    have hlb := Deep.dist_len ht
    rw [List.length_append] at hlb
    refine c_skip ?_
    refine q_then ?_
    refine c_seq ?_
    refine c_seq ?_
    refine c_region ?_
    refine o_pure (p_move (v := .slice a3 (Deep.dist l).length c4) rfl) rfl rfl rfl ?_
    refine o_pure (p_len_slice (len := (Deep.dist l).length) rfl rfl Try.underlying30) rfl rfl rfl ?_
    refine o_pure (p_move (v := .slice al l.length cl) rfl) rfl rfl rfl ?_
    refine o_pure (p_len_slice (len := l.length) rfl rfl Try.underlying30) rfl rfl rfl ?_
    refine o_pure (p_ne (p := ((Deep.dist l).length : Int)) (q := (l.length : Int)) rfl rfl) rfl rfl rfl ?_
    refine o_pure (p_move (v := .bool (((Deep.dist l).length : Int) != (l.length : Int))) rfl) rfl rfl rfl ?_
    refine o_or (p := 46) 7 (((Deep.dist (l ++ l)).length : Int) != (2 * (l.length : Int))) ?_ ?_ ?_
    · intro hb22 hk
      simp only [bne_eq_false_iff_eq] at hb22
      refine o_unguard 39 rfl rfl ?_
      refine o_pure (p_move (v := .slice a17 (Deep.dist (l ++ l)).length c18) rfl) rfl rfl rfl ?_
      refine o_unguard 39 rfl rfl ?_
      refine o_pure (p_len_slice (len := (Deep.dist (l ++ l)).length) rfl rfl Try.underlying30) rfl rfl rfl ?_
      refine o_unguard 39 rfl rfl ?_
      refine o_pure (p_move (v := .slice al l.length cl) rfl) rfl rfl rfl ?_
      refine o_unguard 39 rfl rfl ?_
      refine o_pure (p_len_slice (len := l.length) rfl rfl Try.underlying30) rfl rfl rfl ?_
      refine o_unguard 39 rfl rfl ?_
      refine o_pure (p_mulb (p := 2) (q := (l.length : Int)) rfl rfl (by omega)) rfl rfl rfl ?_
      refine o_unguard 39 rfl rfl ?_
      refine o_pure (p_ne (p := ((Deep.dist (l ++ l)).length : Int)) (q := (2 * (l.length : Int))) rfl rfl) rfl rfl rfl ?_
      refine o_pure (p_pick_false (v := .bool (((Deep.dist (l ++ l)).length : Int) != (2 * (l.length : Int)))) rfl rfl) rfl rfl rfl ?_
      exact o_sub (Sub.cons rfl (Sub.skip rfl (Sub.skip rfl (Sub.skip rfl (Sub.skip rfl (Sub.skip rfl (Sub.skip rfl (Sub.skip rfl (Sub.skip rfl (Sub.refl _)))))))))) hk
    · intro hb22 hk
      refine o_guard_no rfl 39 rfl rfl rfl rfl rfl ?_
      refine o_guard_no rfl 39 rfl rfl rfl rfl rfl ?_
      refine o_guard_no rfl 39 rfl rfl rfl rfl rfl ?_
      refine o_guard_no rfl 39 rfl rfl rfl rfl rfl ?_
      refine o_guard_no rfl 39 rfl rfl rfl rfl rfl ?_
      refine o_guard_no rfl 39 rfl rfl rfl rfl rfl ?_
      refine o_pure (p_pick_true (u := .bool true) rfl rfl) rfl rfl rfl ?_
      exact o_sub (Sub.cons rfl (Sub.skip rfl (Sub.skip rfl (Sub.skip rfl (Sub.skip rfl (Sub.skip rfl (Sub.skip rfl (Sub.skip rfl (Sub.skip rfl (Sub.refl _)))))))))) hk
    refine o_nil ?_
    refine q_then ?_
    refine c_cond (b := ((((Deep.dist l).length : Int) != (l.length : Int)) || (((Deep.dist (l ++ l)).length : Int) != (2 * (l.length : Int))))) rfl (fun hc23 => ?_) (fun hc23 => ?_)
    · simp only [Bool.or_eq_true, bne_iff_ne, ne_eq] at hc23
      exfalso; omega
    · simp only [Bool.or_eq_false_iff, bne_eq_false_iff_eq] at hc23
      refine c_skip ?_
      refine q_then ?_
      refine c_seq ?_
      refine c_region ?_
      refine o_pure (p_assign (v := .slice none 0 0) rfl) rfl rfl rfl ?_
      refine o_nil ?_
      refine q_then ?_
      refine c_seq ?_
      refine c_seq ?_
      refine c_region ?_
      refine o_pure (p_assign (v := .int .i64 0) rfl) rfl rfl rfl ?_
      refine o_nil ?_
      refine q_then ?_
      refine c_block ?_
      refine c_ownNil tInt ?_
      refine c_loop (St := List Int × Option Addr × Nat × (Nat → Prop) × Nat)
        (fun ⟨unlike, aunlike, cunlike, Sunlike, i⟩ => [(0, .slice al l.length cl), (3, .slice a3 (Deep.dist l).length c4), (5, .slice a17 (Deep.dist (l ++ l)).length c18), (7, .slice aunlike unlike.length cunlike), (8, .int .i64 (i : Int))])
        (fun ⟨unlike, aunlike, cunlike, Sunlike, i⟩ => [own tInt Sunlike aunlike cunlike unlike, own tInt S15 a17 c18 (Deep.dist (l ++ l)), own tInt S14 a12 c13 (l ++ l), own tInt S1 a3 c4 (Deep.dist l), base w0])
        (fun ⟨unlike, aunlike, cunlike, Sunlike, i⟩ => i ≤ l.length ∧ unlike = Deep.uniq (l.take i))
        (fun ⟨unlike, aunlike, cunlike, Sunlike, i⟩ => l.length - i)
        ([], none, 0, (fun _ => False), 0) ?_ (Sub.cons rfl (Sub.cons rfl (Sub.cons rfl (Sub.cons rfl (Sub.cons rfl (Sub.nil _)))))) (fun _ hw => hw) ?_
      · exact ⟨Nat.zero_le _, rfl⟩
      rintro ⟨unlike, aunlike, cunlike, Sunlike, i⟩ hI K hK25
      have hul0 : unlike.length ≤ i := by rw [hI.2]; exact Deep.uniq_take l i
      show SC _ _ Try.prog 135 w0 _ _ [(0, .slice al l.length cl), (3, .slice a3 (Deep.dist l).length c4), (5, .slice a17 (Deep.dist (l ++ l)).length c18), (7, .slice aunlike unlike.length cunlike), (8, .int .i64 (i : Int))] [own tInt Sunlike aunlike cunlike unlike, own tInt S15 a17 c18 (Deep.dist (l ++ l)), own tInt S14 a12 c13 (l ++ l), own tInt S1 a3 c4 (Deep.dist l), base w0]
      refine c_seq ?_
      refine c_seq ?_
      refine c_region ?_
      refine o_pure (p_move (v := .int .i64 (i : Int)) rfl) rfl rfl rfl ?_
      refine o_pure (p_move (v := .slice al l.length cl) rfl) rfl rfl rfl ?_
      refine o_pure (p_len_slice (len := l.length) rfl rfl Try.underlying30) rfl rfl rfl ?_
      refine o_pure (p_lt (p := (i : Int)) (q := (l.length : Int)) rfl rfl) rfl rfl rfl ?_
      refine o_nil ?_
      refine q_then ?_
      refine c_cond (b := decide ((i : Int) < (l.length : Int))) rfl (fun hc26 => ?_) (fun hc26 => ?_)
      · simp only [decide_eq_true_eq] at hc26
        refine c_skip ?_
        refine q_then ?_
        refine c_seq ?_
        refine c_block ?_
        refine c_seq ?_
        refine c_seq ?_
        refine c_region ?_
        refine o_pure (p_move (v := .slice aunlike unlike.length cunlike) rfl) rfl rfl rfl ?_
        refine o_pure (p_move (v := .slice al l.length cl) rfl) rfl rfl rfl ?_
        refine o_pure (p_move (v := .int .i64 (i : Int)) rfl) rfl rfl rfl ?_
        refine o_pure (p_indexAddr (L := l) (T := tInt) (i := (i : Int)) rfl rfl (rd_base (i := 4) rfl hl) Try.underlying30 sz3 (by omega) (by omega)) rfl rfl rfl ?_
        refine o_pure (p_loadE1 (i := i) (T := tInt) (L := l) (v := .int .i64 (l[i])) rfl (rd_base (i := 4) rfl hl) (by first | assumption | omega) sh3 rfl) rfl rfl rfl ?_
        refine o_call0 (v := .bool (Ref.hasInt unlike (l[i]))) rfl (hasInt_ok unlike aunlike cunlike (l[i])) hf30 (fun w hw => (rd_own (i := 0) rfl) w hw) rfl ?_
        refine o_pure (p_not (b := (Ref.hasInt unlike (l[i]))) rfl) rfl rfl rfl ?_
        refine o_nil ?_
        refine q_then ?_
        refine c_cond (b := (!(Ref.hasInt unlike (l[i])))) rfl (fun hc27 => ?_) (fun hc27 => ?_)
        · simp only [Bool.not_eq_true'] at hc27
          refine c_region ?_
          refine o_pure (p_move (v := .slice aunlike unlike.length cunlike) rfl) rfl rfl rfl ?_
          refine o_pure (p_move (v := .slice al l.length cl) rfl) rfl rfl rfl ?_
          refine o_pure (p_move (v := .int .i64 (i : Int)) rfl) rfl rfl rfl ?_
          refine o_pure (p_indexAddr (L := l) (T := tInt) (i := (i : Int)) rfl rfl (rd_base (i := 4) rfl hl) Try.underlying30 sz3 (by omega) (by omega)) rfl rfl rfl ?_
          refine o_pure (p_loadE1 (i := i) (T := tInt) (L := l) (v := .int .i64 (l[i])) rfl (rd_base (i := 4) rfl hl) (by first | assumption | omega) sh3 rfl) rfl rfl rfl ?_
          refine o_buildSlice (m := 1) (T := tInt) (L := [l[i]]) (vs := [.int .i64 (l[i])]) rfl rfl rfl rfl Try.underlying30 sz3 (by decide) ze3 rfl (by decide) rfl (fun S28 a29 => ?_)
          refine o_append (i := 1) (L := unlike) (M := [l[i]]) (T := tInt) rfl rfl rfl (rd_own (i := 0) rfl) Try.underlying30 Try.underlying30 (by intro k h; cases h) el3 (by intro z; simp [tInt, one1]) (by decide) (by first | omega | (simp only [List.length_nil]; omega) | (simp only [List.length_append]; omega) | (simp only [List.length_cons, List.length_nil]; omega)) rfl (fun a31 c32 S33 => ?_)
          refine o_pure (p_assign (v := .slice a31 (unlike ++ [l[i]]).length c32) rfl) rfl rfl rfl ?_
          refine o_nil ?_
          refine q_then ?_
          refine c_seq ?_
          refine c_draw hmix (by kernel_rfl) ?_
          refine w_pure (p_move (v := .slice a17 (Deep.dist (l ++ l)).length c18) rfl) rfl rfl rfl ?_
          refine w_pure (p_move (v := .int .i64 (i : Int)) rfl) rfl rfl rfl ?_
          refine w_pure (p_indexAddr (L := (Deep.dist (l ++ l))) (T := tInt) (i := (i : Int)) rfl rfl (rd_own (i := 2) rfl) Try.underlying30 sz3 (by omega) (by omega)) rfl rfl rfl ?_
          refine w_pure (p_loadE1 (i := i) (T := tInt) (L := (Deep.dist (l ++ l))) (v := .int .i64 ((Deep.dist (l ++ l))[i])) rfl (rd_own (i := 2) rfl) (by first | assumption | omega) sh3 rfl) rfl rfl rfl ?_
          refine w_pure (p_move (v := .slice a3 (Deep.dist l).length c4) rfl) rfl rfl rfl ?_
          refine w_pure (p_move (v := .int .i64 (i : Int)) rfl) rfl rfl rfl ?_
          refine w_pure (p_indexAddr (L := (Deep.dist l)) (T := tInt) (i := (i : Int)) rfl rfl (rd_own (i := 4) rfl) Try.underlying30 sz3 (by omega) (by omega)) rfl rfl rfl ?_
          refine w_pure (p_loadE1 (i := i) (T := tInt) (L := (Deep.dist l)) (v := .int .i64 ((Deep.dist l)[i])) rfl (rd_own (i := 4) rfl) (by first | assumption | omega) sh3 rfl) rfl rfl rfl ?_
          refine w_pure (p_ne (p := (Deep.dist (l ++ l))[i]) (q := (Deep.dist l)[i]) rfl rfl) rfl rfl rfl ?_
          refine w_pure (p_move (v := .bool ((Deep.dist (l ++ l))[i] != (Deep.dist l)[i])) rfl) rfl rfl rfl ?_
          refine w_or (p := 85) 9 (decide ((Deep.dist (l ++ l))[((l.length : Int) + (i : Int)).toNat] < 1)) ?_ ?_ ?_
          · intro hb34 hk
            simp only [bne_eq_false_iff_eq] at hb34
            refine w_unguard 76 rfl rfl ?_
            refine w_pure (p_move (v := .slice a17 (Deep.dist (l ++ l)).length c18) rfl) rfl rfl rfl ?_
            refine w_unguard 76 rfl rfl ?_
            refine w_pure (p_move (v := .slice al l.length cl) rfl) rfl rfl rfl ?_
            refine w_unguard 76 rfl rfl ?_
            refine w_pure (p_len_slice (len := l.length) rfl rfl Try.underlying30) rfl rfl rfl ?_
            refine w_unguard 76 rfl rfl ?_
            refine w_pure (p_move (v := .int .i64 (i : Int)) rfl) rfl rfl rfl ?_
            refine w_unguard 76 rfl rfl ?_
            refine w_pure (p_addb (p := (l.length : Int)) (q := (i : Int)) rfl rfl (by omega)) rfl rfl rfl ?_
            refine w_unguard 76 rfl rfl ?_
            refine w_pure (p_indexAddr (L := (Deep.dist (l ++ l))) (T := tInt) (i := ((l.length : Int) + (i : Int))) rfl rfl (rd_own (i := 2) rfl) Try.underlying30 sz3 (by omega) (by omega)) rfl rfl rfl ?_
            refine w_unguard 76 rfl rfl ?_
            refine w_pure (p_loadE1 (i := ((l.length : Int) + (i : Int)).toNat) (T := tInt) (L := (Deep.dist (l ++ l))) (v := .int .i64 ((Deep.dist (l ++ l))[((l.length : Int) + (i : Int)).toNat])) rfl (rd_own (i := 2) rfl) (by first | assumption | omega) sh3 rfl) rfl rfl rfl ?_
            refine w_unguard 76 rfl rfl ?_
            refine w_pure (p_lt (p := (Deep.dist (l ++ l))[((l.length : Int) + (i : Int)).toNat]) (q := 1) rfl rfl) rfl rfl rfl ?_
            refine w_pure (p_pick_false (v := .bool (decide ((Deep.dist (l ++ l))[((l.length : Int) + (i : Int)).toNat] < 1))) rfl rfl) rfl rfl rfl ?_
            exact w_sub (Sub.cons rfl (Sub.skip rfl (Sub.skip rfl (Sub.skip rfl (Sub.skip rfl (Sub.skip rfl (Sub.skip rfl (Sub.skip rfl (Sub.skip rfl (Sub.skip rfl (Sub.skip rfl (Sub.refl _)))))))))))) hk
          · intro hb34 hk
            refine w_guard_no rfl 76 rfl rfl rfl rfl rfl ?_
            refine w_guard_no rfl 76 rfl rfl rfl rfl rfl ?_
            refine w_guard_no rfl 76 rfl rfl rfl rfl rfl ?_
            refine w_guard_no rfl 76 rfl rfl rfl rfl rfl ?_
            refine w_guard_no rfl 76 rfl rfl rfl rfl rfl ?_
            refine w_guard_no rfl 76 rfl rfl rfl rfl rfl ?_
            refine w_guard_no rfl 76 rfl rfl rfl rfl rfl ?_
            refine w_guard_no rfl 76 rfl rfl rfl rfl rfl ?_
            refine w_pure (p_pick_true (u := .bool true) rfl rfl) rfl rfl rfl ?_
            exact w_sub (Sub.cons rfl (Sub.skip rfl (Sub.skip rfl (Sub.skip rfl (Sub.skip rfl (Sub.skip rfl (Sub.skip rfl (Sub.skip rfl (Sub.skip rfl (Sub.skip rfl (Sub.skip rfl (Sub.refl _)))))))))))) hk
          refine w_pure (p_move (v := .bool (((Deep.dist (l ++ l))[i] != (Deep.dist l)[i]) || decide ((Deep.dist (l ++ l))[((l.length : Int) + (i : Int)).toNat] < 1))) rfl) rfl rfl rfl ?_
          refine w_or (p := 106) 20 (decide (0 < (Deep.dist l)[i]) && ((Deep.dist (l ++ l))[((l.length : Int) + (i : Int)).toNat] != (Deep.dist l)[i])) ?_ ?_ ?_
          · intro hb35 hk
            simp only [Bool.or_eq_false_iff, bne_eq_false_iff_eq, decide_eq_false_iff_not, Int.not_lt] at hb35
            refine w_unguard 86 rfl rfl ?_
            refine w_pure (p_move (v := .slice a3 (Deep.dist l).length c4) rfl) rfl rfl rfl ?_
            refine w_unguard 86 rfl rfl ?_
            refine w_pure (p_move (v := .int .i64 (i : Int)) rfl) rfl rfl rfl ?_
            refine w_unguard 86 rfl rfl ?_
            refine w_pure (p_indexAddr (L := (Deep.dist l)) (T := tInt) (i := (i : Int)) rfl rfl (rd_own (i := 4) rfl) Try.underlying30 sz3 (by omega) (by omega)) rfl rfl rfl ?_
            refine w_unguard 86 rfl rfl ?_
            refine w_pure (p_loadE1 (i := i) (T := tInt) (L := (Deep.dist l)) (v := .int .i64 ((Deep.dist l)[i])) rfl (rd_own (i := 4) rfl) (by first | assumption | omega) sh3 rfl) rfl rfl rfl ?_
            refine w_unguard 86 rfl rfl ?_
            refine w_pure (p_gt (p := (Deep.dist l)[i]) (q := 0) rfl rfl) rfl rfl rfl ?_
            refine w_unguard 86 rfl rfl ?_
            refine w_pure (p_move (v := .bool (decide (0 < (Deep.dist l)[i]))) rfl) rfl rfl rfl ?_
            refine w_and (p := 105) 13 ((Deep.dist (l ++ l))[((l.length : Int) + (i : Int)).toNat] != (Deep.dist l)[i]) ?_ ?_ ?_
            · intro hb36 hk
              simp only [decide_eq_true_eq] at hb36
              refine w_unguard 92 rfl rfl ?_
              refine w_pure (p_move (v := .slice a17 (Deep.dist (l ++ l)).length c18) rfl) rfl rfl rfl ?_
              refine w_unguard 92 rfl rfl ?_
              refine w_pure (p_move (v := .slice al l.length cl) rfl) rfl rfl rfl ?_
              refine w_unguard 92 rfl rfl ?_
              refine w_pure (p_len_slice (len := l.length) rfl rfl Try.underlying30) rfl rfl rfl ?_
              refine w_unguard 92 rfl rfl ?_
              refine w_pure (p_move (v := .int .i64 (i : Int)) rfl) rfl rfl rfl ?_
              refine w_unguard 92 rfl rfl ?_
              refine w_pure (p_addb (p := (l.length : Int)) (q := (i : Int)) rfl rfl (by omega)) rfl rfl rfl ?_
              refine w_unguard 92 rfl rfl ?_
              refine w_pure (p_indexAddr (L := (Deep.dist (l ++ l))) (T := tInt) (i := ((l.length : Int) + (i : Int))) rfl rfl (rd_own (i := 2) rfl) Try.underlying30 sz3 (by omega) (by omega)) rfl rfl rfl ?_
              refine w_unguard 92 rfl rfl ?_
              refine w_pure (p_loadE1 (i := ((l.length : Int) + (i : Int)).toNat) (T := tInt) (L := (Deep.dist (l ++ l))) (v := .int .i64 ((Deep.dist (l ++ l))[((l.length : Int) + (i : Int)).toNat])) rfl (rd_own (i := 2) rfl) (by first | assumption | omega) sh3 rfl) rfl rfl rfl ?_
              refine w_unguard 92 rfl rfl ?_
              refine w_pure (p_move (v := .slice a3 (Deep.dist l).length c4) rfl) rfl rfl rfl ?_
              refine w_unguard 92 rfl rfl ?_
              refine w_pure (p_move (v := .int .i64 (i : Int)) rfl) rfl rfl rfl ?_
              refine w_unguard 92 rfl rfl ?_
              refine w_pure (p_indexAddr (L := (Deep.dist l)) (T := tInt) (i := (i : Int)) rfl rfl (rd_own (i := 4) rfl) Try.underlying30 sz3 (by omega) (by omega)) rfl rfl rfl ?_
              refine w_unguard 92 rfl rfl ?_
              refine w_pure (p_loadE1 (i := i) (T := tInt) (L := (Deep.dist l)) (v := .int .i64 ((Deep.dist l)[i])) rfl (rd_own (i := 4) rfl) (by first | assumption | omega) sh3 rfl) rfl rfl rfl ?_
              refine w_unguard 92 rfl rfl ?_
              refine w_pure (p_ne (p := (Deep.dist (l ++ l))[((l.length : Int) + (i : Int)).toNat]) (q := (Deep.dist l)[i]) rfl rfl) rfl rfl rfl ?_
              refine w_unguard 86 rfl rfl ?_
              refine w_pure (p_pick_true (u := .bool ((Deep.dist (l ++ l))[((l.length : Int) + (i : Int)).toNat] != (Deep.dist l)[i])) rfl rfl) rfl rfl rfl ?_
              exact w_sub (Sub.cons rfl (Sub.skip rfl (Sub.skip rfl (Sub.skip rfl (Sub.skip rfl (Sub.skip rfl (Sub.skip rfl (Sub.skip rfl (Sub.skip rfl (Sub.skip rfl (Sub.skip rfl (Sub.skip rfl (Sub.skip rfl (Sub.skip rfl (Sub.skip rfl (Sub.refl _)))))))))))))))) hk
            · intro hb36 hk
              refine w_guard_no rfl 92 rfl rfl rfl rfl rfl ?_
              refine w_guard_no rfl 92 rfl rfl rfl rfl rfl ?_
              refine w_guard_no rfl 92 rfl rfl rfl rfl rfl ?_
              refine w_guard_no rfl 92 rfl rfl rfl rfl rfl ?_
              refine w_guard_no rfl 92 rfl rfl rfl rfl rfl ?_
              refine w_guard_no rfl 92 rfl rfl rfl rfl rfl ?_
              refine w_guard_no rfl 92 rfl rfl rfl rfl rfl ?_
              refine w_guard_no rfl 92 rfl rfl rfl rfl rfl ?_
              refine w_guard_no rfl 92 rfl rfl rfl rfl rfl ?_
              refine w_guard_no rfl 92 rfl rfl rfl rfl rfl ?_
              refine w_guard_no rfl 92 rfl rfl rfl rfl rfl ?_
              refine w_guard_no rfl 92 rfl rfl rfl rfl rfl ?_
              refine w_unguard 86 rfl rfl ?_
              refine w_pure (p_pick_false (v := .bool false) rfl rfl) rfl rfl rfl ?_
              exact w_sub (Sub.cons rfl (Sub.skip rfl (Sub.skip rfl (Sub.skip rfl (Sub.skip rfl (Sub.skip rfl (Sub.skip rfl (Sub.skip rfl (Sub.skip rfl (Sub.skip rfl (Sub.skip rfl (Sub.skip rfl (Sub.skip rfl (Sub.skip rfl (Sub.skip rfl (Sub.refl _)))))))))))))))) hk
            refine w_pure (p_pick_false (v := .bool (decide (0 < (Deep.dist l)[i]) && ((Deep.dist (l ++ l))[((l.length : Int) + (i : Int)).toNat] != (Deep.dist l)[i]))) rfl rfl) rfl rfl rfl ?_
            exact w_sub (Sub.cons rfl (Sub.skip rfl (Sub.skip rfl (Sub.skip rfl (Sub.skip rfl (Sub.skip rfl (Sub.skip rfl (Sub.skip rfl (Sub.skip rfl (Sub.refl _)))))))))) hk
          · intro hb35 hk
            refine w_guard_no rfl 86 rfl rfl rfl rfl rfl ?_
            refine w_guard_no rfl 86 rfl rfl rfl rfl rfl ?_
            refine w_guard_no rfl 86 rfl rfl rfl rfl rfl ?_
            refine w_guard_no rfl 86 rfl rfl rfl rfl rfl ?_
            refine w_guard_no rfl 86 rfl rfl rfl rfl rfl ?_
            refine w_guard_no rfl 86 rfl rfl rfl rfl rfl ?_
            refine w_guard_no rfl 92 rfl rfl rfl rfl rfl ?_
            refine w_guard_no rfl 92 rfl rfl rfl rfl rfl ?_
            refine w_guard_no rfl 92 rfl rfl rfl rfl rfl ?_
            refine w_guard_no rfl 92 rfl rfl rfl rfl rfl ?_
            refine w_guard_no rfl 92 rfl rfl rfl rfl rfl ?_
            refine w_guard_no rfl 92 rfl rfl rfl rfl rfl ?_
            refine w_guard_no rfl 92 rfl rfl rfl rfl rfl ?_
            refine w_guard_no rfl 92 rfl rfl rfl rfl rfl ?_
            refine w_guard_no rfl 92 rfl rfl rfl rfl rfl ?_
            refine w_guard_no rfl 92 rfl rfl rfl rfl rfl ?_
            refine w_guard_no rfl 92 rfl rfl rfl rfl rfl ?_
            refine w_guard_no rfl 92 rfl rfl rfl rfl rfl ?_
            refine w_guard_no rfl 86 rfl rfl rfl rfl rfl ?_
            refine w_pure (p_pick_true (u := .bool true) rfl rfl) rfl rfl rfl ?_
            exact w_sub (Sub.cons rfl (Sub.skip rfl (Sub.skip rfl (Sub.skip rfl (Sub.skip rfl (Sub.skip rfl (Sub.skip rfl (Sub.skip rfl (Sub.skip rfl (Sub.skip rfl (Sub.skip rfl (Sub.skip rfl (Sub.skip rfl (Sub.skip rfl (Sub.skip rfl (Sub.skip rfl (Sub.skip rfl (Sub.skip rfl (Sub.skip rfl (Sub.skip rfl (Sub.skip rfl (Sub.skip rfl (Sub.refl _))))))))))))))))))))))) hk
          refine w_nil ?_
          refine q_then ?_
          refine c_cond (b := ((((Deep.dist (l ++ l))[i] != (Deep.dist l)[i]) || decide ((Deep.dist (l ++ l))[((l.length : Int) + (i : Int)).toNat] < 1)) || (decide (0 < (Deep.dist l)[i]) && ((Deep.dist (l ++ l))[((l.length : Int) + (i : Int)).toNat] != (Deep.dist l)[i])))) rfl (fun hc37 => ?_) (fun hc37 => ?_)
          · simp only [Bool.or_eq_true, bne_iff_ne, ne_eq, decide_eq_true_eq, Bool.and_eq_true] at hc37
            exfalso; have m1 := Deep.r_same (i := i) ht (by omega) (by omega) (by omega); have m2 := Deep.r_pos (i := i) (j := ((l.length : Int) + (i : Int)).toNat) ht (by omega) (by omega) (by omega); have m3 := Deep.r_eq (i := i) (j := ((l.length : Int) + (i : Int)).toNat) ht (by omega) (by omega) (by omega); omega
          · simp only [Bool.or_eq_false_iff, bne_eq_false_iff_eq, decide_eq_false_iff_not, Int.not_lt, Bool.and_eq_false_iff] at hc37
            refine c_skip ?_
            refine q_block_normal (q_then ?_)
            refine c_region ?_
            refine o_pure (p_move (v := .int .i64 (i : Int)) rfl) rfl rfl rfl ?_
            refine o_pure (p_addb (p := (i : Int)) (q := 1) rfl rfl (by omega)) rfl rfl rfl ?_
            refine o_pure (p_assign (v := .int .i64 ((i : Int) + 1)) rfl) rfl rfl rfl ?_
            refine o_nil ?_
            refine q_round hK25 ((unlike ++ [l[i]]), a31, c32, S33, i + 1) ?_ ?_ ?_ ?_
            · clear hK25
              first | exact ⟨by omega, (Deep.take_uniq hI.2 (by omega)).1 (by assumption)⟩ | exact ⟨by omega, (Deep.take_uniq hI.2 (by omega)).2 (by assumption)⟩
            · (try dsimp only); omega
            · exact Sub.cons rfl (Sub.cons rfl (Sub.cons rfl (Sub.cons rfl (Sub.cons rfl (Sub.nil _)))))
            · exact fun _ hw => HeapIs.pick hw [1, 2, 3, 4, 5] (by decide) rfl
        · simp only [Bool.not_eq_false'] at hc27
          refine c_skip ?_
          refine q_then ?_
          refine c_seq ?_
          refine c_draw hmix (by kernel_rfl) ?_
          refine w_pure (p_move (v := .slice a17 (Deep.dist (l ++ l)).length c18) rfl) rfl rfl rfl ?_
          refine w_pure (p_move (v := .int .i64 (i : Int)) rfl) rfl rfl rfl ?_
          refine w_pure (p_indexAddr (L := (Deep.dist (l ++ l))) (T := tInt) (i := (i : Int)) rfl rfl (rd_own (i := 1) rfl) Try.underlying30 sz3 (by omega) (by omega)) rfl rfl rfl ?_
          refine w_pure (p_loadE1 (i := i) (T := tInt) (L := (Deep.dist (l ++ l))) (v := .int .i64 ((Deep.dist (l ++ l))[i])) rfl (rd_own (i := 1) rfl) (by first | assumption | omega) sh3 rfl) rfl rfl rfl ?_
          refine w_pure (p_move (v := .slice a3 (Deep.dist l).length c4) rfl) rfl rfl rfl ?_
          refine w_pure (p_move (v := .int .i64 (i : Int)) rfl) rfl rfl rfl ?_
          refine w_pure (p_indexAddr (L := (Deep.dist l)) (T := tInt) (i := (i : Int)) rfl rfl (rd_own (i := 3) rfl) Try.underlying30 sz3 (by omega) (by omega)) rfl rfl rfl ?_
          refine w_pure (p_loadE1 (i := i) (T := tInt) (L := (Deep.dist l)) (v := .int .i64 ((Deep.dist l)[i])) rfl (rd_own (i := 3) rfl) (by first | assumption | omega) sh3 rfl) rfl rfl rfl ?_
          refine w_pure (p_ne (p := (Deep.dist (l ++ l))[i]) (q := (Deep.dist l)[i]) rfl rfl) rfl rfl rfl ?_
          refine w_pure (p_move (v := .bool ((Deep.dist (l ++ l))[i] != (Deep.dist l)[i])) rfl) rfl rfl rfl ?_
          refine w_or (p := 85) 9 (decide ((Deep.dist (l ++ l))[((l.length : Int) + (i : Int)).toNat] < 1)) ?_ ?_ ?_
          · intro hb38 hk
            simp only [bne_eq_false_iff_eq] at hb38
            refine w_unguard 76 rfl rfl ?_
            refine w_pure (p_move (v := .slice a17 (Deep.dist (l ++ l)).length c18) rfl) rfl rfl rfl ?_
            refine w_unguard 76 rfl rfl ?_
            refine w_pure (p_move (v := .slice al l.length cl) rfl) rfl rfl rfl ?_
            refine w_unguard 76 rfl rfl ?_
            refine w_pure (p_len_slice (len := l.length) rfl rfl Try.underlying30) rfl rfl rfl ?_
            refine w_unguard 76 rfl rfl ?_
            refine w_pure (p_move (v := .int .i64 (i : Int)) rfl) rfl rfl rfl ?_
            refine w_unguard 76 rfl rfl ?_
            refine w_pure (p_addb (p := (l.length : Int)) (q := (i : Int)) rfl rfl (by omega)) rfl rfl rfl ?_
            refine w_unguard 76 rfl rfl ?_
            refine w_pure (p_indexAddr (L := (Deep.dist (l ++ l))) (T := tInt) (i := ((l.length : Int) + (i : Int))) rfl rfl (rd_own (i := 1) rfl) Try.underlying30 sz3 (by omega) (by omega)) rfl rfl rfl ?_
            refine w_unguard 76 rfl rfl ?_
            refine w_pure (p_loadE1 (i := ((l.length : Int) + (i : Int)).toNat) (T := tInt) (L := (Deep.dist (l ++ l))) (v := .int .i64 ((Deep.dist (l ++ l))[((l.length : Int) + (i : Int)).toNat])) rfl (rd_own (i := 1) rfl) (by first | assumption | omega) sh3 rfl) rfl rfl rfl ?_
            refine w_unguard 76 rfl rfl ?_
            refine w_pure (p_lt (p := (Deep.dist (l ++ l))[((l.length : Int) + (i : Int)).toNat]) (q := 1) rfl rfl) rfl rfl rfl ?_
            refine w_pure (p_pick_false (v := .bool (decide ((Deep.dist (l ++ l))[((l.length : Int) + (i : Int)).toNat] < 1))) rfl rfl) rfl rfl rfl ?_
            exact w_sub (Sub.cons rfl (Sub.skip rfl (Sub.skip rfl (Sub.skip rfl (Sub.skip rfl (Sub.skip rfl (Sub.skip rfl (Sub.skip rfl (Sub.skip rfl (Sub.skip rfl (Sub.skip rfl (Sub.refl _)))))))))))) hk
          · intro hb38 hk
            refine w_guard_no rfl 76 rfl rfl rfl rfl rfl ?_
            refine w_guard_no rfl 76 rfl rfl rfl rfl rfl ?_
            refine w_guard_no rfl 76 rfl rfl rfl rfl rfl ?_
            refine w_guard_no rfl 76 rfl rfl rfl rfl rfl ?_
            refine w_guard_no rfl 76 rfl rfl rfl rfl rfl ?_
            refine w_guard_no rfl 76 rfl rfl rfl rfl rfl ?_
            refine w_guard_no rfl 76 rfl rfl rfl rfl rfl ?_
            refine w_guard_no rfl 76 rfl rfl rfl rfl rfl ?_
            refine w_pure (p_pick_true (u := .bool true) rfl rfl) rfl rfl rfl ?_
            exact w_sub (Sub.cons rfl (Sub.skip rfl (Sub.skip rfl (Sub.skip rfl (Sub.skip rfl (Sub.skip rfl (Sub.skip rfl (Sub.skip rfl (Sub.skip rfl (Sub.skip rfl (Sub.skip rfl (Sub.refl _)))))))))))) hk
          refine w_pure (p_move (v := .bool (((Deep.dist (l ++ l))[i] != (Deep.dist l)[i]) || decide ((Deep.dist (l ++ l))[((l.length : Int) + (i : Int)).toNat] < 1))) rfl) rfl rfl rfl ?_
          refine w_or (p := 106) 20 (decide (0 < (Deep.dist l)[i]) && ((Deep.dist (l ++ l))[((l.length : Int) + (i : Int)).toNat] != (Deep.dist l)[i])) ?_ ?_ ?_
          · intro hb39 hk
            simp only [Bool.or_eq_false_iff, bne_eq_false_iff_eq, decide_eq_false_iff_not, Int.not_lt] at hb39
            refine w_unguard 86 rfl rfl ?_
            refine w_pure (p_move (v := .slice a3 (Deep.dist l).length c4) rfl) rfl rfl rfl ?_
            refine w_unguard 86 rfl rfl ?_
            refine w_pure (p_move (v := .int .i64 (i : Int)) rfl) rfl rfl rfl ?_
            refine w_unguard 86 rfl rfl ?_
            refine w_pure (p_indexAddr (L := (Deep.dist l)) (T := tInt) (i := (i : Int)) rfl rfl (rd_own (i := 3) rfl) Try.underlying30 sz3 (by omega) (by omega)) rfl rfl rfl ?_
            refine w_unguard 86 rfl rfl ?_
            refine w_pure (p_loadE1 (i := i) (T := tInt) (L := (Deep.dist l)) (v := .int .i64 ((Deep.dist l)[i])) rfl (rd_own (i := 3) rfl) (by first | assumption | omega) sh3 rfl) rfl rfl rfl ?_
            refine w_unguard 86 rfl rfl ?_
            refine w_pure (p_gt (p := (Deep.dist l)[i]) (q := 0) rfl rfl) rfl rfl rfl ?_
            refine w_unguard 86 rfl rfl ?_
            refine w_pure (p_move (v := .bool (decide (0 < (Deep.dist l)[i]))) rfl) rfl rfl rfl ?_
            refine w_and (p := 105) 13 ((Deep.dist (l ++ l))[((l.length : Int) + (i : Int)).toNat] != (Deep.dist l)[i]) ?_ ?_ ?_
            · intro hb40 hk
              simp only [decide_eq_true_eq] at hb40
              refine w_unguard 92 rfl rfl ?_
              refine w_pure (p_move (v := .slice a17 (Deep.dist (l ++ l)).length c18) rfl) rfl rfl rfl ?_
              refine w_unguard 92 rfl rfl ?_
              refine w_pure (p_move (v := .slice al l.length cl) rfl) rfl rfl rfl ?_
              refine w_unguard 92 rfl rfl ?_
              refine w_pure (p_len_slice (len := l.length) rfl rfl Try.underlying30) rfl rfl rfl ?_
              refine w_unguard 92 rfl rfl ?_
              refine w_pure (p_move (v := .int .i64 (i : Int)) rfl) rfl rfl rfl ?_
              refine w_unguard 92 rfl rfl ?_
              refine w_pure (p_addb (p := (l.length : Int)) (q := (i : Int)) rfl rfl (by omega)) rfl rfl rfl ?_
              refine w_unguard 92 rfl rfl ?_
              refine w_pure (p_indexAddr (L := (Deep.dist (l ++ l))) (T := tInt) (i := ((l.length : Int) + (i : Int))) rfl rfl (rd_own (i := 1) rfl) Try.underlying30 sz3 (by omega) (by omega)) rfl rfl rfl ?_
              refine w_unguard 92 rfl rfl ?_
              refine w_pure (p_loadE1 (i := ((l.length : Int) + (i : Int)).toNat) (T := tInt) (L := (Deep.dist (l ++ l))) (v := .int .i64 ((Deep.dist (l ++ l))[((l.length : Int) + (i : Int)).toNat])) rfl (rd_own (i := 1) rfl) (by first | assumption | omega) sh3 rfl) rfl rfl rfl ?_
              refine w_unguard 92 rfl rfl ?_
              refine w_pure (p_move (v := .slice a3 (Deep.dist l).length c4) rfl) rfl rfl rfl ?_
              refine w_unguard 92 rfl rfl ?_
              refine w_pure (p_move (v := .int .i64 (i : Int)) rfl) rfl rfl rfl ?_
              refine w_unguard 92 rfl rfl ?_
              refine w_pure (p_indexAddr (L := (Deep.dist l)) (T := tInt) (i := (i : Int)) rfl rfl (rd_own (i := 3) rfl) Try.underlying30 sz3 (by omega) (by omega)) rfl rfl rfl ?_
              refine w_unguard 92 rfl rfl ?_
              refine w_pure (p_loadE1 (i := i) (T := tInt) (L := (Deep.dist l)) (v := .int .i64 ((Deep.dist l)[i])) rfl (rd_own (i := 3) rfl) (by first | assumption | omega) sh3 rfl) rfl rfl rfl ?_
              refine w_unguard 92 rfl rfl ?_
              refine w_pure (p_ne (p := (Deep.dist (l ++ l))[((l.length : Int) + (i : Int)).toNat]) (q := (Deep.dist l)[i]) rfl rfl) rfl rfl rfl ?_
              refine w_unguard 86 rfl rfl ?_
              refine w_pure (p_pick_true (u := .bool ((Deep.dist (l ++ l))[((l.length : Int) + (i : Int)).toNat] != (Deep.dist l)[i])) rfl rfl) rfl rfl rfl ?_
              exact w_sub (Sub.cons rfl (Sub.skip rfl (Sub.skip rfl (Sub.skip rfl (Sub.skip rfl (Sub.skip rfl (Sub.skip rfl (Sub.skip rfl (Sub.skip rfl (Sub.skip rfl (Sub.skip rfl (Sub.skip rfl (Sub.skip rfl (Sub.skip rfl (Sub.skip rfl (Sub.refl _)))))))))))))))) hk
            · intro hb40 hk
              refine w_guard_no rfl 92 rfl rfl rfl rfl rfl ?_
              refine w_guard_no rfl 92 rfl rfl rfl rfl rfl ?_
              refine w_guard_no rfl 92 rfl rfl rfl rfl rfl ?_
              refine w_guard_no rfl 92 rfl rfl rfl rfl rfl ?_
              refine w_guard_no rfl 92 rfl rfl rfl rfl rfl ?_
              refine w_guard_no rfl 92 rfl rfl rfl rfl rfl ?_
              refine w_guard_no rfl 92 rfl rfl rfl rfl rfl ?_
              refine w_guard_no rfl 92 rfl rfl rfl rfl rfl ?_
              refine w_guard_no rfl 92 rfl rfl rfl rfl rfl ?_
              refine w_guard_no rfl 92 rfl rfl rfl rfl rfl ?_
              refine w_guard_no rfl 92 rfl rfl rfl rfl rfl ?_
              refine w_guard_no rfl 92 rfl rfl rfl rfl rfl ?_
              refine w_unguard 86 rfl rfl ?_
              refine w_pure (p_pick_false (v := .bool false) rfl rfl) rfl rfl rfl ?_
              exact w_sub (Sub.cons rfl (Sub.skip rfl (Sub.skip rfl (Sub.skip rfl (Sub.skip rfl (Sub.skip rfl (Sub.skip rfl (Sub.skip rfl (Sub.skip rfl (Sub.skip rfl (Sub.skip rfl (Sub.skip rfl (Sub.skip rfl (Sub.skip rfl (Sub.skip rfl (Sub.refl _)))))))))))))))) hk
            refine w_pure (p_pick_false (v := .bool (decide (0 < (Deep.dist l)[i]) && ((Deep.dist (l ++ l))[((l.length : Int) + (i : Int)).toNat] != (Deep.dist l)[i]))) rfl rfl) rfl rfl rfl ?_
            exact w_sub (Sub.cons rfl (Sub.skip rfl (Sub.skip rfl (Sub.skip rfl (Sub.skip rfl (Sub.skip rfl (Sub.skip rfl (Sub.skip rfl (Sub.skip rfl (Sub.refl _)))))))))) hk
          · intro hb39 hk
            refine w_guard_no rfl 86 rfl rfl rfl rfl rfl ?_
            refine w_guard_no rfl 86 rfl rfl rfl rfl rfl ?_
            refine w_guard_no rfl 86 rfl rfl rfl rfl rfl ?_
            refine w_guard_no rfl 86 rfl rfl rfl rfl rfl ?_
            refine w_guard_no rfl 86 rfl rfl rfl rfl rfl ?_
            refine w_guard_no rfl 86 rfl rfl rfl rfl rfl ?_
            refine w_guard_no rfl 92 rfl rfl rfl rfl rfl ?_
            refine w_guard_no rfl 92 rfl rfl rfl rfl rfl ?_
            refine w_guard_no rfl 92 rfl rfl rfl rfl rfl ?_
            refine w_guard_no rfl 92 rfl rfl rfl rfl rfl ?_
            refine w_guard_no rfl 92 rfl rfl rfl rfl rfl ?_
            refine w_guard_no rfl 92 rfl rfl rfl rfl rfl ?_
            refine w_guard_no rfl 92 rfl rfl rfl rfl rfl ?_
            refine w_guard_no rfl 92 rfl rfl rfl rfl rfl ?_
            refine w_guard_no rfl 92 rfl rfl rfl rfl rfl ?_
            refine w_guard_no rfl 92 rfl rfl rfl rfl rfl ?_
            refine w_guard_no rfl 92 rfl rfl rfl rfl rfl ?_
            refine w_guard_no rfl 92 rfl rfl rfl rfl rfl ?_
            refine w_guard_no rfl 86 rfl rfl rfl rfl rfl ?_
            refine w_pure (p_pick_true (u := .bool true) rfl rfl) rfl rfl rfl ?_
            exact w_sub (Sub.cons rfl (Sub.skip rfl (Sub.skip rfl (Sub.skip rfl (Sub.skip rfl (Sub.skip rfl (Sub.skip rfl (Sub.skip rfl (Sub.skip rfl (Sub.skip rfl (Sub.skip rfl (Sub.skip rfl (Sub.skip rfl (Sub.skip rfl (Sub.skip rfl (Sub.skip rfl (Sub.skip rfl (Sub.skip rfl (Sub.skip rfl (Sub.skip rfl (Sub.skip rfl (Sub.skip rfl (Sub.refl _))))))))))))))))))))))) hk
          refine w_nil ?_
          refine q_then ?_
          refine c_cond (b := ((((Deep.dist (l ++ l))[i] != (Deep.dist l)[i]) || decide ((Deep.dist (l ++ l))[((l.length : Int) + (i : Int)).toNat] < 1)) || (decide (0 < (Deep.dist l)[i]) && ((Deep.dist (l ++ l))[((l.length : Int) + (i : Int)).toNat] != (Deep.dist l)[i])))) rfl (fun hc41 => ?_) (fun hc41 => ?_)
          · simp only [Bool.or_eq_true, bne_iff_ne, ne_eq, decide_eq_true_eq, Bool.and_eq_true] at hc41
            exfalso; have m1 := Deep.r_same (i := i) ht (by omega) (by omega) (by omega); have m2 := Deep.r_pos (i := i) (j := ((l.length : Int) + (i : Int)).toNat) ht (by omega) (by omega) (by omega); have m3 := Deep.r_eq (i := i) (j := ((l.length : Int) + (i : Int)).toNat) ht (by omega) (by omega) (by omega); omega
          · simp only [Bool.or_eq_false_iff, bne_eq_false_iff_eq, decide_eq_false_iff_not, Int.not_lt, Bool.and_eq_false_iff] at hc41
            refine c_skip ?_
            refine q_block_normal (q_then ?_)
            refine c_region ?_
            refine o_pure (p_move (v := .int .i64 (i : Int)) rfl) rfl rfl rfl ?_
            refine o_pure (p_addb (p := (i : Int)) (q := 1) rfl rfl (by omega)) rfl rfl rfl ?_
            refine o_pure (p_assign (v := .int .i64 ((i : Int) + 1)) rfl) rfl rfl rfl ?_
            refine o_nil ?_
            refine q_round hK25 (unlike, aunlike, cunlike, Sunlike, i + 1) ?_ ?_ ?_ ?_
            · clear hK25
              first | exact ⟨by omega, (Deep.take_uniq hI.2 (by omega)).1 (by assumption)⟩ | exact ⟨by omega, (Deep.take_uniq hI.2 (by omega)).2 (by assumption)⟩
            · (try dsimp only); omega
            · exact Sub.cons rfl (Sub.cons rfl (Sub.cons rfl (Sub.cons rfl (Sub.cons rfl (Sub.nil _)))))
            · exact fun _ hw => HeapIs.pick hw [0, 1, 2, 3, 4] (by decide) rfl
      · simp only [decide_eq_false_iff_not, Int.not_lt] at hc26
        have hun : unlike = Deep.uniq l := by rw [hI.2, List.take_of_length_le (by omega)]
        refine c_exit ?_
        refine q_then_exit (q_then_exit (q_block_exit (q_then ?_)))
        refine c_seq ?_
        refine c_seq ?_
        refine c_region ?_
        refine o_pure (p_move (v := .slice al l.length cl) rfl) rfl rfl rfl ?_
        refine o_pure (p_len_slice (len := l.length) rfl rfl Try.underlying30) rfl rfl rfl ?_
        refine o_pure (p_assign (v := .int .i64 (l.length : Int)) rfl) rfl rfl rfl ?_
        refine o_nil ?_
        refine q_then ?_
        refine c_block ?_
        refine c_loop (St := Nat)
          (fun i2 => [(0, .slice al l.length cl), (3, .slice a3 (Deep.dist l).length c4), (5, .slice a17 (Deep.dist (l ++ l)).length c18), (7, .slice aunlike unlike.length cunlike), (9, .int .i64 (i2 : Int))])
          (fun i2 => [own tInt Sunlike aunlike cunlike unlike, own tInt S15 a17 c18 (Deep.dist (l ++ l)), own tInt S14 a12 c13 (l ++ l), own tInt S1 a3 c4 (Deep.dist l), base w0])
          (fun i2 => l.length ≤ i2)
          (fun i2 => (Deep.dist (l ++ l)).length - i2)
          ((l.length : Int).toNat) ?_ (Sub.cons rfl (Sub.cons rfl (Sub.cons rfl (Sub.cons rfl (Sub.cons rfl (Sub.nil _)))))) (fun _ hw => hw) ?_
        · exact Nat.le_refl _
        rintro i2 hI K hK42
        show SC _ _ Try.prog 135 w0 _ _ [(0, .slice al l.length cl), (3, .slice a3 (Deep.dist l).length c4), (5, .slice a17 (Deep.dist (l ++ l)).length c18), (7, .slice aunlike unlike.length cunlike), (9, .int .i64 (i2 : Int))] [own tInt Sunlike aunlike cunlike unlike, own tInt S15 a17 c18 (Deep.dist (l ++ l)), own tInt S14 a12 c13 (l ++ l), own tInt S1 a3 c4 (Deep.dist l), base w0]
        refine c_seq ?_
        refine c_seq ?_
        refine c_region ?_
        refine o_pure (p_move (v := .int .i64 (i2 : Int)) rfl) rfl rfl rfl ?_
        refine o_pure (p_move (v := .slice a17 (Deep.dist (l ++ l)).length c18) rfl) rfl rfl rfl ?_
        refine o_pure (p_len_slice (len := (Deep.dist (l ++ l)).length) rfl rfl Try.underlying30) rfl rfl rfl ?_
        refine o_pure (p_lt (p := (i2 : Int)) (q := ((Deep.dist (l ++ l)).length : Int)) rfl rfl) rfl rfl rfl ?_
        refine o_nil ?_
        refine q_then ?_
        refine c_cond (b := decide ((i2 : Int) < ((Deep.dist (l ++ l)).length : Int))) rfl (fun hc43 => ?_) (fun hc43 => ?_)
        · simp only [decide_eq_true_eq] at hc43
          refine c_skip ?_
          refine q_then ?_
          refine c_seq ?_
          refine c_block ?_
          refine c_seq ?_
          refine c_region ?_
          refine o_pure (p_move (v := .slice a17 (Deep.dist (l ++ l)).length c18) rfl) rfl rfl rfl ?_
          refine o_pure (p_move (v := .int .i64 (i2 : Int)) rfl) rfl rfl rfl ?_
          refine o_pure (p_indexAddr (L := (Deep.dist (l ++ l))) (T := tInt) (i := (i2 : Int)) rfl rfl (rd_own (i := 1) rfl) Try.underlying30 sz3 (by omega) (by omega)) rfl rfl rfl ?_
          refine o_pure (p_loadE1 (i := i2) (T := tInt) (L := (Deep.dist (l ++ l))) (v := .int .i64 ((Deep.dist (l ++ l))[i2])) rfl (rd_own (i := 1) rfl) (by first | assumption | omega) sh3 rfl) rfl rfl rfl ?_
          refine o_pure (p_move (v := .slice aunlike unlike.length cunlike) rfl) rfl rfl rfl ?_
          refine o_pure (p_len_slice (len := unlike.length) rfl rfl Try.underlying30) rfl rfl rfl ?_
          refine o_pure (p_gt (p := (Deep.dist (l ++ l))[i2]) (q := (unlike.length : Int)) rfl rfl) rfl rfl rfl ?_
          refine o_nil ?_
          refine q_then ?_
          refine c_cond (b := decide ((unlike.length : Int) < (Deep.dist (l ++ l))[i2])) rfl (fun hc44 => ?_) (fun hc44 => ?_)
          · simp only [decide_eq_true_eq] at hc44
            exfalso; have m1 := Deep.r_le (j := i2) ht (by omega) (by omega); rw [← hun] at m1; omega
          · simp only [decide_eq_false_iff_not, Int.not_lt] at hc44
            refine c_skip ?_
            refine q_block_normal (q_then ?_)
            refine c_region ?_
            refine o_pure (p_move (v := .int .i64 (i2 : Int)) rfl) rfl rfl rfl ?_
            refine o_pure (p_addb (p := (i2 : Int)) (q := 1) rfl rfl (by omega)) rfl rfl rfl ?_
            refine o_pure (p_assign (v := .int .i64 ((i2 : Int) + 1)) rfl) rfl rfl rfl ?_
            refine o_nil ?_
            refine q_round hK42 (i2 + 1) ?_ ?_ ?_ ?_
            · clear hK42
              omega
            · (try dsimp only); omega
            · exact Sub.cons rfl (Sub.cons rfl (Sub.cons rfl (Sub.cons rfl (Sub.cons rfl (Sub.nil _)))))
            · exact fun _ hw => HeapIs.pick hw [0, 1, 2, 3, 4] (by decide) rfl
        · simp only [decide_eq_false_iff_not, Int.not_lt] at hc43
          refine c_exit ?_
          refine q_then_exit (q_then_exit (q_block_exit (q_then ?_)))
          refine c_seq ?_
          refine c_region ?_
          refine o_pure (p_move (v := .slice a3 (Deep.dist l).length c4) rfl) rfl rfl rfl ?_
          refine o_pure (p_len_slice (len := (Deep.dist l).length) rfl rfl Try.underlying30) rfl rfl rfl ?_
          refine o_pure (p_move (v := .slice al l.length cl) rfl) rfl rfl rfl ?_
          refine o_pure (p_len_slice (len := l.length) rfl rfl Try.underlying30) rfl rfl rfl ?_
          refine o_pure (p_eq (p := ((Deep.dist l).length : Int)) (q := (l.length : Int)) rfl rfl) rfl rfl rfl ?_
          refine o_pure (p_move (v := .bool (((Deep.dist l).length : Int) == (l.length : Int))) rfl) rfl rfl rfl ?_
          refine o_and (p := 134) 7 (((Deep.dist (l ++ l)).length : Int) == (2 * (l.length : Int))) ?_ ?_ ?_
          · intro hb45 hk
            simp only [beq_iff_eq] at hb45
            refine o_unguard 127 rfl rfl ?_
            refine o_pure (p_move (v := .slice a17 (Deep.dist (l ++ l)).length c18) rfl) rfl rfl rfl ?_
            refine o_unguard 127 rfl rfl ?_
            refine o_pure (p_len_slice (len := (Deep.dist (l ++ l)).length) rfl rfl Try.underlying30) rfl rfl rfl ?_
            refine o_unguard 127 rfl rfl ?_
            refine o_pure (p_move (v := .slice al l.length cl) rfl) rfl rfl rfl ?_
            refine o_unguard 127 rfl rfl ?_
            refine o_pure (p_len_slice (len := l.length) rfl rfl Try.underlying30) rfl rfl rfl ?_
            refine o_unguard 127 rfl rfl ?_
            refine o_pure (p_mulb (p := 2) (q := (l.length : Int)) rfl rfl (by omega)) rfl rfl rfl ?_
            refine o_unguard 127 rfl rfl ?_
            refine o_pure (p_eq (p := ((Deep.dist (l ++ l)).length : Int)) (q := (2 * (l.length : Int))) rfl rfl) rfl rfl rfl ?_
            refine o_pure (p_pick_true (u := .bool (((Deep.dist (l ++ l)).length : Int) == (2 * (l.length : Int)))) rfl rfl) rfl rfl rfl ?_
            exact o_sub (Sub.cons rfl (Sub.skip rfl (Sub.skip rfl (Sub.skip rfl (Sub.skip rfl (Sub.skip rfl (Sub.skip rfl (Sub.skip rfl (Sub.skip rfl (Sub.refl _)))))))))) hk
          · intro hb45 hk
            refine o_guard_no rfl 127 rfl rfl rfl rfl rfl ?_
            refine o_guard_no rfl 127 rfl rfl rfl rfl rfl ?_
            refine o_guard_no rfl 127 rfl rfl rfl rfl rfl ?_
            refine o_guard_no rfl 127 rfl rfl rfl rfl rfl ?_
            refine o_guard_no rfl 127 rfl rfl rfl rfl rfl ?_
            refine o_guard_no rfl 127 rfl rfl rfl rfl rfl ?_
            refine o_pure (p_pick_false (v := .bool false) rfl rfl) rfl rfl rfl ?_
            exact o_sub (Sub.cons rfl (Sub.skip rfl (Sub.skip rfl (Sub.skip rfl (Sub.skip rfl (Sub.skip rfl (Sub.skip rfl (Sub.skip rfl (Sub.skip rfl (Sub.refl _)))))))))) hk
          refine o_pure (p_assign (v := .bool ((((Deep.dist l).length : Int) == (l.length : Int)) && (((Deep.dist (l ++ l)).length : Int) == (2 * (l.length : Int))))) rfl) rfl rfl rfl ?_
          refine o_nil ?_
          refine q_then ?_
          refine c_ret ?_
          have hr0 : (((((Deep.dist l).length : Int) == (l.length : Int)) && (((Deep.dist (l ++ l)).length : Int) == (2 * (l.length : Int)))) : Bool) = true := by
            first | rfl | (rcases hbad with h | h; exact bne_iff_ne.2 fun h2 => h (Deep.twice_ok h2); exact bne_iff_ne.2 h) | (rw [hla]; simp [hlb]; omega)
          refine q_end0 (v := .bool ((((Deep.dist l).length : Int) == (l.length : Int)) && (((Deep.dist (l ++ l)).length : Int) == (2 * (l.length : Int))))) (rt1 rfl (r_tmp rfl)) (i := 4) rfl ?_
          exact (by have hcc := congrArg (fun (y0 : Bool) => (.bool y0 : Value)) hr0; exact hcc)
end Go.Proofs.Ytkndekkacimekaa
