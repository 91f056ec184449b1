/- The walks, printed by a program from the translation and a specification. -/
import Derived.Test.YthbfdhphnofacaaAaF
import Derived.Test.YthbfdhphnofacaaFlPure
import Derived.Test.YthbfdhphnofacaaFlLaw
import Derived.Test.YthbfdhphnofacaaAaW5
import Derived.Test.YthbfdhphnofacaaFlLaw3
namespace Go.Proofs.Ythbfdhphnofacaa
open Go.Sx Go.RowKit
set_option maxHeartbeats 8000000 in
set_option maxRecDepth 100000 in
theorem flightParts_ok (l : List DCall) (al : Option Addr) (cl : Nat) (key : Int) : Fn0 Try.prog 10 [.slice al l.length cl, .int .i64 key] (fun w => Rd tCall w al cl l) (.bool true) := by
  refine fn0 (nt := 76) (F0 := [(0, .slice al l.length cl), (1, .int .i64 key)]) Try.func10 rfl Try.ntmps10 rfl rfl (fun w0 hpre => ?_)
  have hl := hpre
  have hll := hl.2.1
  refine c_seq ?_
  refine c_region ?_
  refine o_pure (p_assign (v := .bool false) rfl) rfl rfl rfl ?_
  refine o_nil ?_
  refine q_then ?_
  refine c_seq ?_
  refine c_region ?_
  refine o_pure (p_move (v := .slice al l.length cl) rfl) rfl rfl rfl ?_
  refine o_callM rfl (planEx_ok l al cl) hf24 (fun w hw => (rd_base (i := 0) rfl hl) w hw) rfl (fun _ _ _ _ ha hA => ⟨SlR.agree ha hA.1, SlR.agree ha hA.2⟩) ?_
  rintro ⟨a3, c4, a5, c6⟩ S1
  refine o_pure (p_move (v := .tuple #[.slice a3 (Flight.who l).length c4, .slice a5 (Flight.when_ l).length c6, .int .i64 (Flight.check l)]) rfl) rfl rfl rfl ?_
  refine o_pure (p_extract (vs := [.slice a3 (Flight.who l).length c4, .slice a5 (Flight.when_ l).length c6, .int .i64 (Flight.check l)]) (v := .slice a3 (Flight.who l).length c4) rfl rfl) rfl rfl rfl ?_
  refine o_pure (p_extract (vs := [.slice a3 (Flight.who l).length c4, .slice a5 (Flight.when_ l).length c6, .int .i64 (Flight.check l)]) (v := .slice a5 (Flight.when_ l).length c6) rfl rfl) rfl rfl rfl ?_
  refine o_pure (p_extract (vs := [.slice a3 (Flight.who l).length c4, .slice a5 (Flight.when_ l).length c6, .int .i64 (Flight.check l)]) (v := .int .i64 (Flight.check l)) rfl rfl) rfl rfl rfl ?_
  refine o_pure (p_assign (v := .slice a3 (Flight.who l).length c4) rfl) rfl rfl rfl ?_
  refine o_pure (p_assign (v := .slice a5 (Flight.when_ l).length c6) rfl) rfl rfl rfl ?_
  refine o_pure (p_assign (v := .int .i64 (Flight.check l)) rfl) rfl rfl rfl ?_
  refine o_nil ?_
  refine q_then ?_
  refine c_seq ?_
  refine c_region ?_
  refine o_pure (p_assign (v := .slice none 0 0) rfl) rfl rfl rfl ?_
  refine o_nil ?_
  refine q_then ?_
  refine c_seq ?_
  refine c_region ?_
  refine o_pure (p_assign (v := .slice none 0 0) rfl) rfl rfl rfl ?_
  refine o_nil ?_
  refine q_then ?_
  refine c_seq ?_
  refine c_seq ?_
  refine c_region ?_
  refine o_pure (p_assign (v := .int .i64 0) rfl) rfl rfl rfl ?_
  refine o_nil ?_
  refine q_then ?_
  refine c_block ?_
  refine c_ownNil tCall ?_
  refine c_ownNil tInt ?_
  refine c_loop (St := List DCall × Option Addr × Nat × (Nat → Prop) × List Int × Option Addr × Nat × (Nat → Prop) × Nat)
    (fun ⟨mine, amine, cmine, Smine, want, awant, cwant, Swant, i⟩ => [(0, .slice al l.length cl), (1, .int .i64 key), (6, .slice a5 (Flight.when_ l).length c6), (7, .int .i64 (Flight.check l)), (8, .slice amine mine.length cmine), (9, .slice awant want.length cwant), (10, .int .i64 (i : Int))])
    (fun ⟨mine, amine, cmine, Smine, want, awant, cwant, Swant, i⟩ => [own tInt Swant awant cwant want, own tCall Smine amine cmine mine, ⟨S1, fun w => SlR tInt S1 w a3 c4 (Flight.who l) ∧ SlR tInt S1 w a5 c6 (Flight.when_ l)⟩, base w0])
    (fun ⟨mine, amine, cmine, Smine, want, awant, cwant, Swant, i⟩ => Flight.PInv l key mine want i)
    (fun ⟨mine, amine, cmine, Smine, want, awant, cwant, Swant, i⟩ => l.length - i)
    ([], none, 0, (fun _ => False), [], none, 0, (fun _ => False), 0) ?_ (Sub.cons rfl (Sub.cons rfl (Sub.cons rfl (Sub.cons rfl (Sub.cons rfl (Sub.cons rfl (Sub.cons rfl (Sub.nil _)))))))) (fun _ hw => hw) ?_
  · exact Flight.PInv.start l key
  rintro ⟨mine, amine, cmine, Smine, want, awant, cwant, Swant, i⟩ hI K hK9
  show SC Try.prog 76 w0 _ _ [(0, .slice al l.length cl), (1, .int .i64 key), (6, .slice a5 (Flight.when_ l).length c6), (7, .int .i64 (Flight.check l)), (8, .slice amine mine.length cmine), (9, .slice awant want.length cwant), (10, .int .i64 (i : Int))] [own tInt Swant awant cwant want, own tCall Smine amine cmine mine, ⟨S1, fun w => SlR tInt S1 w a3 c4 (Flight.who l) ∧ SlR tInt S1 w a5 c6 (Flight.when_ l)⟩, base w0]
  refine c_seq ?_
  refine c_seq ?_
  refine c_region ?_
  refine o_pure (p_move (v := .int .i64 (i : Int)) rfl) rfl rfl rfl ?_
  refine o_pure (p_move (v := .slice al l.length cl) rfl) rfl rfl rfl ?_
  refine o_pure (p_len_slice (len := l.length) rfl rfl Try.underlying37) rfl rfl rfl ?_
  refine o_pure (p_lt (p := (i : Int)) (q := (l.length : Int)) rfl rfl) rfl rfl rfl ?_
  refine o_pure (p_move (v := .bool (decide ((i : Int) < (l.length : Int)))) rfl) rfl rfl rfl ?_
  refine o_and (p := 29) 5 (decide ((i : Int) < ((Flight.when_ l).length : Int))) ?_ ?_ ?_
  · intro hb10 hk
    simp only [decide_eq_true_eq] at hb10
    refine o_unguard 24 rfl rfl ?_
    refine o_pure (p_move (v := .int .i64 (i : Int)) rfl) rfl rfl rfl ?_
    refine o_unguard 24 rfl rfl ?_
    refine o_pure (p_move (v := .slice a5 (Flight.when_ l).length c6) rfl) rfl rfl rfl ?_
    refine o_unguard 24 rfl rfl ?_
    refine o_pure (p_len_slice (len := (Flight.when_ l).length) rfl rfl Try.underlying38) rfl rfl rfl ?_
    refine o_unguard 24 rfl rfl ?_
    refine o_pure (p_lt (p := (i : Int)) (q := ((Flight.when_ l).length : Int)) rfl rfl) rfl rfl rfl ?_
    refine o_pure (p_pick_true (u := .bool (decide ((i : Int) < ((Flight.when_ l).length : Int)))) rfl rfl) rfl rfl rfl ?_
    exact o_sub (Sub.cons rfl (Sub.skip rfl (Sub.skip rfl (Sub.skip rfl (Sub.skip rfl (Sub.skip rfl (Sub.skip rfl (Sub.refl _)))))))) hk
  · intro hb10 hk
    refine o_guard_no rfl 24 rfl rfl rfl rfl rfl ?_
    refine o_guard_no rfl 24 rfl rfl rfl rfl rfl ?_
    refine o_guard_no rfl 24 rfl rfl rfl rfl rfl ?_
    refine o_guard_no rfl 24 rfl rfl rfl rfl rfl ?_
    refine o_pure (p_pick_false (v := .bool false) rfl rfl) rfl rfl rfl ?_
    exact o_sub (Sub.cons rfl (Sub.skip rfl (Sub.skip rfl (Sub.skip rfl (Sub.skip rfl (Sub.skip rfl (Sub.skip rfl (Sub.refl _)))))))) hk
  refine o_pure (p_move (v := .bool (decide ((i : Int) < (l.length : Int)) && decide ((i : Int) < ((Flight.when_ l).length : Int)))) rfl) rfl rfl rfl ?_
  refine o_and (p := 33) 3 ((Flight.check l) == 0) ?_ ?_ ?_
  · intro hb11 hk
    simp only [Bool.and_eq_true, decide_eq_true_eq] at hb11
    refine o_unguard 30 rfl rfl ?_
    refine o_pure (p_move (v := .int .i64 (Flight.check l)) rfl) rfl rfl rfl ?_
    refine o_unguard 30 rfl rfl ?_
    refine o_pure (p_eq (p := (Flight.check l)) (q := 0) rfl rfl) rfl rfl rfl ?_
    refine o_pure (p_pick_true (u := .bool ((Flight.check l) == 0)) rfl rfl) rfl rfl rfl ?_
    exact o_sub (Sub.cons rfl (Sub.skip rfl (Sub.skip rfl (Sub.skip rfl (Sub.skip rfl (Sub.refl _)))))) hk
  · intro hb11 hk
    refine o_guard_no rfl 30 rfl rfl rfl rfl rfl ?_
    refine o_guard_no rfl 30 rfl rfl rfl rfl rfl ?_
    refine o_pure (p_pick_false (v := .bool false) rfl rfl) rfl rfl rfl ?_
    exact o_sub (Sub.cons rfl (Sub.skip rfl (Sub.skip rfl (Sub.skip rfl (Sub.skip rfl (Sub.refl _)))))) hk
  refine o_nil ?_
  refine q_then ?_
  refine c_cond (b := ((decide ((i : Int) < (l.length : Int)) && decide ((i : Int) < ((Flight.when_ l).length : Int))) && ((Flight.check l) == 0))) rfl (fun hc12 => ?_) (fun hc12 => ?_)
  · simp only [Bool.and_eq_true, decide_eq_true_eq, beq_iff_eq] at hc12
    have hch : Flight.check l = 0 := hc12.2
    have h60 := Flight.check_len hch
    have hi2 : i < l.length := by omega
    have hw2 : i < (Flight.when_ l).length := by omega
    have hol := hI.2.1
    have hwl := hI.2.2.1
    refine c_skip ?_
    refine q_then ?_
    refine c_seq ?_
    refine c_block ?_
    refine c_seq ?_
    refine c_region ?_
    refine o_pure (p_move (v := .slice al l.length cl) rfl) rfl rfl rfl ?_
    refine o_pure (p_move (v := .int .i64 (i : Int)) rfl) rfl rfl rfl ?_
    refine o_pure (p_indexAddr (L := l) (T := tCall) (i := (i : Int)) rfl rfl (rd_base (i := 3) rfl hl) Try.underlying37 sz47 (by omega) (by omega)) rfl rfl rfl ?_
    refine o_pure (p_fieldAddrE rfl fo47_0) rfl rfl rfl ?_
    refine o_pure (p_loadF (i := i) (j := 0) (T := tCall) (L := l) (v := .int .i64 ((l[i]).key)) rfl (rd_base (i := 3) rfl hl) (by first | assumption | omega) sh3 rfl) rfl rfl rfl ?_
    refine o_pure (p_move (v := .int .i64 key) rfl) rfl rfl rfl ?_
    refine o_pure (p_eq (p := (l[i]).key) (q := key) rfl rfl) rfl rfl rfl ?_
    refine o_nil ?_
    refine q_then ?_
    refine c_cond (b := ((l[i]).key == key)) rfl (fun hc13 => ?_) (fun hc13 => ?_)
    · simp only [beq_iff_eq] at hc13
      refine c_seq ?_
      refine c_region ?_
      refine o_pure (p_move (v := .slice amine mine.length cmine) rfl) rfl rfl rfl ?_
      refine o_pure (p_move (v := .slice al l.length cl) rfl) rfl rfl rfl ?_
      refine o_pure (p_move (v := .int .i64 (i : Int)) rfl) rfl rfl rfl ?_
      refine o_pure (p_indexAddr (L := l) (T := tCall) (i := (i : Int)) rfl rfl (rd_base (i := 3) rfl hl) Try.underlying37 sz47 (by omega) (by omega)) rfl rfl rfl ?_
      refine o_pure (p_loadEn (i := i) (T := tCall) (L := l) (vs := [.int .i64 ((l[i]).key), .int .i64 ((l[i]).at_), .int .i64 ((l[i]).long)]) rfl (rd_base (i := 3) rfl hl) (by first | assumption | omega) sh47 rfl) rfl rfl rfl ?_
      refine o_buildSlice (m := 1) (T := tCall) (L := [(⟨(l[i]).key, (l[i]).at_, (l[i]).long⟩ : DCall)]) (vs := [.agg #[.int .i64 ((l[i]).key), .int .i64 ((l[i]).at_), .int .i64 ((l[i]).long)]]) rfl rfl rfl rfl Try.underlying37 sz47 (by decide) ze47 rfl (by decide) rfl (fun S14 a15 => ?_)
      refine o_append (i := 2) (L := mine) (M := [(⟨(l[i]).key, (l[i]).at_, (l[i]).long⟩ : DCall)]) (T := tCall) rfl rfl rfl (rd_own (i := 0) rfl) Try.underlying37 Try.underlying37 (by intro k h; cases h) el47 (by intro z; simp [tCall, one1]) (by decide) (by simp only [List.length_cons, List.length_nil]; omega) rfl (fun a17 c18 S19 => ?_)
      refine o_pure (p_assign (v := .slice a17 (mine ++ [(⟨(l[i]).key, (l[i]).at_, (l[i]).long⟩ : DCall)]).length c18) rfl) rfl rfl rfl ?_
      refine o_nil ?_
      refine q_then ?_
      refine c_region ?_
      refine o_pure (p_move (v := .slice awant want.length cwant) rfl) rfl rfl rfl ?_
      refine o_pure (p_move (v := .slice a5 (Flight.when_ l).length c6) rfl) rfl rfl rfl ?_
      refine o_pure (p_move (v := .int .i64 (i : Int)) rfl) rfl rfl rfl ?_
      refine o_pure (p_indexAddr (L := (Flight.when_ l)) (T := tInt) (i := (i : Int)) rfl rfl (rd_ent (i := 3) rfl (fun w h => h.2)) Try.underlying38 sz3 (by omega) (by omega)) rfl rfl rfl ?_
      refine o_pure (p_loadE1 (i := i) (T := tInt) (L := (Flight.when_ l)) (v := .int .i64 ((Flight.when_ l)[i])) rfl (rd_ent (i := 3) rfl (fun w h => h.2)) (by first | assumption | omega) sh3 rfl) rfl rfl rfl ?_
      refine o_buildSlice (m := 1) (T := tInt) (L := [(Flight.when_ l)[i]]) (vs := [.int .i64 ((Flight.when_ l)[i])]) rfl rfl rfl rfl Try.underlying38 sz3 (by decide) ze3 rfl (by decide) rfl (fun S20 a21 => ?_)
      refine o_append (i := 2) (L := want) (M := [(Flight.when_ l)[i]]) (T := tInt) rfl rfl rfl (rd_own (i := 0) rfl) Try.underlying38 Try.underlying38 (by intro k h; cases h) el3 (by intro z; simp [tInt, one1]) (by decide) (by simp only [List.length_cons, List.length_nil]; omega) rfl (fun a23 c24 S25 => ?_)
      refine o_pure (p_assign (v := .slice a23 (want ++ [(Flight.when_ l)[i]]).length c24) rfl) rfl rfl rfl ?_
      refine o_nil ?_
      refine q_block_normal (q_then ?_)
      refine c_region ?_
      refine o_pure (p_move (v := .int .i64 (i : Int)) rfl) rfl rfl rfl ?_
      refine o_pure (p_addb (p := (i : Int)) (q := 1) rfl rfl (by omega)) rfl rfl rfl ?_
      refine o_pure (p_assign (v := .int .i64 ((i : Int) + 1)) rfl) rfl rfl rfl ?_
      refine o_nil ?_
      refine q_round hK9 ((mine ++ [(⟨(l[i]).key, (l[i]).at_, (l[i]).long⟩ : DCall)]), a17, c18, S19, (want ++ [(Flight.when_ l)[i]]), a23, c24, S25, i + 1) ?_ ?_ ?_ ?_
      · clear hK9
        first | exact (Flight.PInv.step hch hI hi2 hw2).1 (by assumption) | exact (Flight.PInv.step hch hI hi2 hw2).2 (by assumption)
      · (try dsimp only); omega
      · exact Sub.cons rfl (Sub.cons rfl (Sub.cons rfl (Sub.cons rfl (Sub.cons rfl (Sub.cons rfl (Sub.cons rfl (Sub.nil _)))))))
      · exact fun _ hw => HeapIs.drop hw (List.Sublist.cons _ (List.Sublist.cons _ (List.Sublist.refl _)))
    · simp only [beq_eq_false_iff_ne, ne_eq] at hc13
      refine c_skip ?_
      refine q_block_normal (q_then ?_)
      refine c_region ?_
      refine o_pure (p_move (v := .int .i64 (i : Int)) rfl) rfl rfl rfl ?_
      refine o_pure (p_addb (p := (i : Int)) (q := 1) rfl rfl (by omega)) rfl rfl rfl ?_
      refine o_pure (p_assign (v := .int .i64 ((i : Int) + 1)) rfl) rfl rfl rfl ?_
      refine o_nil ?_
      refine q_round hK9 (mine, amine, cmine, Smine, want, awant, cwant, Swant, i + 1) ?_ ?_ ?_ ?_
      · clear hK9
        first | exact (Flight.PInv.step hch hI hi2 hw2).1 (by assumption) | exact (Flight.PInv.step hch hI hi2 hw2).2 (by assumption)
      · (try dsimp only); omega
      · exact Sub.cons rfl (Sub.cons rfl (Sub.cons rfl (Sub.cons rfl (Sub.cons rfl (Sub.cons rfl (Sub.cons rfl (Sub.nil _)))))))
      · exact fun _ hw => HeapIs.drop hw (List.Sublist.refl _)
  · simp only [Bool.and_eq_false_iff, decide_eq_false_iff_not, Int.not_lt, beq_eq_false_iff_ne, ne_eq] at hc12
    refine c_exit ?_
    refine q_then_exit (q_then_exit (q_block_exit (q_then ?_)))
    refine c_seq ?_
    refine c_region ?_
    refine o_pure (p_move (v := .slice amine mine.length cmine) rfl) rfl rfl rfl ?_
    refine o_callM rfl (planEx_ok mine amine cmine) hf24 (fun w hw => (rd_own (i := 1) rfl) w hw) rfl (fun _ _ _ _ ha hA => ⟨SlR.agree ha hA.1, SlR.agree ha hA.2⟩) ?_
    rintro ⟨a28, c29, a30, c31⟩ S26
    refine o_pure (p_move (v := .tuple #[.slice a28 (Flight.who mine).length c29, .slice a30 (Flight.when_ mine).length c31, .int .i64 (Flight.check mine)]) rfl) rfl rfl rfl ?_
    refine o_pure (p_extract (vs := [.slice a28 (Flight.who mine).length c29, .slice a30 (Flight.when_ mine).length c31, .int .i64 (Flight.check mine)]) (v := .slice a28 (Flight.who mine).length c29) rfl rfl) rfl rfl rfl ?_
    refine o_pure (p_extract (vs := [.slice a28 (Flight.who mine).length c29, .slice a30 (Flight.when_ mine).length c31, .int .i64 (Flight.check mine)]) (v := .slice a30 (Flight.when_ mine).length c31) rfl rfl) rfl rfl rfl ?_
    refine o_pure (p_extract (vs := [.slice a28 (Flight.who mine).length c29, .slice a30 (Flight.when_ mine).length c31, .int .i64 (Flight.check mine)]) (v := .int .i64 (Flight.check mine)) rfl rfl) rfl rfl rfl ?_
    refine o_pure (p_assign (v := .slice a28 (Flight.who mine).length c29) rfl) rfl rfl rfl ?_
    refine o_pure (p_assign (v := .slice a30 (Flight.when_ mine).length c31) rfl) rfl rfl rfl ?_
    refine o_pure (p_assign (v := .int .i64 (Flight.check mine)) rfl) rfl rfl rfl ?_
    refine o_nil ?_
    refine q_then ?_
    refine c_seq ?_
    refine c_seq ?_
    refine c_region ?_
    refine o_call0 (v := .bool true) rfl (crowdBegun_ok ) hf29 (fun _ _ => trivial) rfl ?_
    refine o_pure (p_not (b := true) rfl) rfl rfl rfl ?_
    refine o_nil ?_
    refine q_then ?_
    refine c_false rfl ?_
    refine c_skip ?_
    refine q_then ?_
    refine c_seq ?_
    refine c_region ?_
    refine o_pure (p_move (v := .int .i64 (Flight.check l)) rfl) rfl rfl rfl ?_
    refine o_pure (p_ne (p := (Flight.check l)) (q := 0) rfl rfl) rfl rfl rfl ?_
    refine o_pure (p_move (v := .bool ((Flight.check l) != 0)) rfl) rfl rfl rfl ?_
    refine o_or (p := 75) 8 (((Flight.check mine) == 0) && (Ref.sameInts (Flight.when_ mine) want)) ?_ ?_ ?_
    · intro hb32 hk
      simp only [bne_eq_false_iff_eq] at hb32
      refine o_unguard 67 rfl rfl ?_
      refine o_pure (p_move (v := .int .i64 (Flight.check mine)) rfl) rfl rfl rfl ?_
      refine o_unguard 67 rfl rfl ?_
      refine o_pure (p_eq (p := (Flight.check mine)) (q := 0) rfl rfl) rfl rfl rfl ?_
      refine o_unguard 67 rfl rfl ?_
      refine o_pure (p_move (v := .bool ((Flight.check mine) == 0)) rfl) rfl rfl rfl ?_
      refine o_and (p := 74) 4 (Ref.sameInts (Flight.when_ mine) want) ?_ ?_ ?_
      · intro hb33 hk
        simp only [beq_iff_eq] at hb33
        refine o_unguard 70 rfl rfl ?_
        refine o_pure (p_move (v := .slice a30 (Flight.when_ mine).length c31) rfl) rfl rfl rfl ?_
        refine o_unguard 70 rfl rfl ?_
        refine o_pure (p_move (v := .slice awant want.length cwant) rfl) rfl rfl rfl ?_
        refine o_unguard 70 rfl rfl ?_
        refine o_call0 (v := .bool (Ref.sameInts (Flight.when_ mine) want)) rfl (sameInts_ok (Flight.when_ mine) a30 c31 want awant cwant) hf31 (fun w hw => ⟨(rd_ent (i := 0) rfl (fun w h => h.2)) w hw, (rd_own (i := 1) rfl) w hw⟩) rfl ?_
        refine o_unguard 67 rfl rfl ?_
        refine o_pure (p_pick_true (u := .bool (Ref.sameInts (Flight.when_ mine) want)) rfl rfl) rfl rfl rfl ?_
        exact o_sub (Sub.cons rfl (Sub.skip rfl (Sub.skip rfl (Sub.skip rfl (Sub.skip rfl (Sub.skip rfl (Sub.refl _))))))) hk
      · intro hb33 hk
        refine o_guard_no rfl 70 rfl rfl rfl rfl rfl ?_
        refine o_guard_no rfl 70 rfl rfl rfl rfl rfl ?_
        refine o_guard_no rfl 70 rfl rfl rfl rfl rfl ?_
        refine o_unguard 67 rfl rfl ?_
        refine o_pure (p_pick_false (v := .bool false) rfl rfl) rfl rfl rfl ?_
        exact o_sub (Sub.cons rfl (Sub.skip rfl (Sub.skip rfl (Sub.skip rfl (Sub.skip rfl (Sub.skip rfl (Sub.refl _))))))) hk
      refine o_pure (p_pick_false (v := .bool (((Flight.check mine) == 0) && (Ref.sameInts (Flight.when_ mine) want))) rfl rfl) rfl rfl rfl ?_
      exact o_sub (Sub.cons rfl (Sub.skip rfl (Sub.skip rfl (Sub.skip rfl (Sub.skip rfl (Sub.skip rfl (Sub.refl _))))))) hk
    · intro hb32 hk
      refine o_guard_no rfl 67 rfl rfl rfl rfl rfl ?_
      refine o_guard_no rfl 67 rfl rfl rfl rfl rfl ?_
      refine o_guard_no rfl 67 rfl rfl rfl rfl rfl ?_
      refine o_guard_no rfl 70 rfl rfl rfl rfl rfl ?_
      refine o_guard_no rfl 70 rfl rfl rfl rfl rfl ?_
      refine o_guard_no rfl 70 rfl rfl rfl rfl rfl ?_
      refine o_guard_no rfl 67 rfl rfl rfl rfl rfl ?_
      refine o_pure (p_pick_true (u := .bool true) rfl rfl) rfl rfl rfl ?_
      exact o_sub (Sub.cons rfl (Sub.skip rfl (Sub.skip rfl (Sub.skip rfl (Sub.skip rfl (Sub.skip rfl (Sub.skip rfl (Sub.skip rfl (Sub.skip rfl (Sub.skip rfl (Sub.refl _))))))))))) hk
    refine o_pure (p_assign (v := .bool (((Flight.check l) != 0) || (((Flight.check mine) == 0) && (Ref.sameInts (Flight.when_ mine) want)))) rfl) rfl rfl rfl ?_
    refine o_nil ?_
    refine q_then ?_
    refine c_ret ?_
    refine q_end0 (v := .bool (((Flight.check l) != 0) || (((Flight.check mine) == 0) && (Ref.sameInts (Flight.when_ mine) want)))) (rt1 rfl (r_tmp rfl)) (i := 4) rfl ?_
    congr 1
    by_cases hch : Flight.check l = 0
    · have hwl := Flight.when_length hch
      obtain ⟨d1, d2⟩ := Flight.PInv.done hch hI (by omega)
      simp [hch, d1, d2, Ref.sameInts]
    · simp [hch]
end Go.Proofs.Ythbfdhphnofacaa
