/- The walks, printed by a program from the translation and a specification. -/
import Derived.Test.YthbfdhphnofacaaAaF
import Derived.Test.YthbfdhphnofacaaFlPure
import Derived.Test.YthbfdhphnofacaaFlLaw
import Derived.Test.YthbfdhphnofacaaAaW5
namespace Go.Proofs.Ythbfdhphnofacaa
open Go.Sx Go.RowKit
set_option maxHeartbeats 8000000 in
set_option maxRecDepth 100000 in
theorem flightSpec_ok (l : List DCall) (al : Option Addr) (cl : Nat) (at_ : Int) : Fn0 Try.prog 7 [.slice al l.length cl, .int .i64 at_] (fun w => Rd tCall w al cl l) (.bool true) := by
  refine fn0 (nt := 142) (F0 := [(0, .slice al l.length cl), (1, .int .i64 at_)]) Try.func7 rfl Try.ntmps7 rfl rfl (fun w0 hpre => ?_)
  have hl := hpre
  have hll := hl.2.1
  refine c_seq ?_
  refine c_region ?_
  refine o_pure (p_assign (v := .bool false) rfl) rfl rfl rfl ?_
  refine o_nil ?_
  refine q_then ?_
  refine c_seq ?_
  refine c_region ?_
  refine o_pure (p_move (v := .slice al l.length cl) rfl) rfl rfl rfl ?_
  refine o_callM rfl (planEx_ok l al cl) hf24 (fun w hw => (rd_base (i := 0) rfl hl) w hw) rfl (fun _ _ _ _ ha hA => ⟨SlR.agree ha hA.1, SlR.agree ha hA.2⟩) ?_
  rintro ⟨a3, c4, a5, c6⟩ S1
  refine o_pure (p_move (v := .tuple #[.slice a3 (Flight.who l).length c4, .slice a5 (Flight.when_ l).length c6, .int .i64 (Flight.check l)]) rfl) rfl rfl rfl ?_
  refine o_pure (p_extract (vs := [.slice a3 (Flight.who l).length c4, .slice a5 (Flight.when_ l).length c6, .int .i64 (Flight.check l)]) (v := .slice a3 (Flight.who l).length c4) rfl rfl) rfl rfl rfl ?_
  refine o_pure (p_extract (vs := [.slice a3 (Flight.who l).length c4, .slice a5 (Flight.when_ l).length c6, .int .i64 (Flight.check l)]) (v := .slice a5 (Flight.when_ l).length c6) rfl rfl) rfl rfl rfl ?_
  refine o_pure (p_extract (vs := [.slice a3 (Flight.who l).length c4, .slice a5 (Flight.when_ l).length c6, .int .i64 (Flight.check l)]) (v := .int .i64 (Flight.check l)) rfl rfl) rfl rfl rfl ?_
  refine o_pure (p_assign (v := .slice a3 (Flight.who l).length c4) rfl) rfl rfl rfl ?_
  refine o_pure (p_assign (v := .slice a5 (Flight.when_ l).length c6) rfl) rfl rfl rfl ?_
  refine o_pure (p_assign (v := .int .i64 (Flight.check l)) rfl) rfl rfl rfl ?_
  refine o_nil ?_
  refine q_then ?_
  refine c_seq ?_
  refine c_region ?_
  refine o_pure (p_move (v := .slice al l.length cl) rfl) rfl rfl rfl ?_
  refine o_call0 (v := .tuple #[.int .i64 (Flight.loads l), .int .i64 (Flight.check l)]) rfl (loads_ok l al cl) hf25 (fun w hw => (rd_base (i := 1) rfl hl) w hw) rfl ?_
  refine o_pure (p_move (v := .tuple #[.int .i64 (Flight.loads l), .int .i64 (Flight.check l)]) rfl) rfl rfl rfl ?_
  refine o_pure (p_extract (vs := [.int .i64 (Flight.loads l), .int .i64 (Flight.check l)]) (v := .int .i64 (Flight.loads l)) rfl rfl) rfl rfl rfl ?_
  refine o_pure (p_extract (vs := [.int .i64 (Flight.loads l), .int .i64 (Flight.check l)]) (v := .int .i64 (Flight.check l)) rfl rfl) rfl rfl rfl ?_
  refine o_pure (p_assign (v := .int .i64 (Flight.loads l)) rfl) rfl rfl rfl ?_
  refine o_pure (p_assign (v := .int .i64 (Flight.check l)) rfl) rfl rfl rfl ?_
  refine o_nil ?_
  refine q_then ?_
  refine c_seq ?_
  refine c_region ?_
  refine o_pure (p_move (v := .slice al l.length cl) rfl) rfl rfl rfl ?_
  refine o_pure (p_move (v := .int .i64 at_) rfl) rfl rfl rfl ?_
  refine o_callM rfl (active_ok l al cl at_) hf26 (fun w hw => (rd_base (i := 1) rfl hl) w hw) rfl (fun _ _ _ _ ha hA => SlO.agree ha hA) ?_
  rintro ⟨a9, c10⟩ S7
  refine o_pure (p_move (v := .tuple #[.slice a9 (Flight.active l at_).length c10, .int .i64 (Flight.activeErr l at_)]) rfl) rfl rfl rfl ?_
  refine o_pure (p_extract (vs := [.slice a9 (Flight.active l at_).length c10, .int .i64 (Flight.activeErr l at_)]) (v := .slice a9 (Flight.active l at_).length c10) rfl rfl) rfl rfl rfl ?_
  refine o_pure (p_extract (vs := [.slice a9 (Flight.active l at_).length c10, .int .i64 (Flight.activeErr l at_)]) (v := .int .i64 (Flight.activeErr l at_)) rfl rfl) rfl rfl rfl ?_
  refine o_pure (p_assign (v := .slice a9 (Flight.active l at_).length c10) rfl) rfl rfl rfl ?_
  refine o_pure (p_assign (v := .int .i64 (Flight.activeErr l at_)) rfl) rfl rfl rfl ?_
  refine o_nil ?_
  refine q_then ?_
  refine c_seq ?_
  refine c_region ?_
  refine o_pure (p_move (v := .slice al l.length cl) rfl) rfl rfl rfl ?_
  refine o_call0 (v := .int .i64 (Flight.check l)) rfl (crowdCheck_ok l al cl) hf27 (fun w hw => (rd_base (i := 2) rfl hl) w hw) rfl ?_
  refine o_pure (p_assign (v := .int .i64 (Flight.check l)) rfl) rfl rfl rfl ?_
  refine o_nil ?_
  refine q_then ?_
  refine c_seq ?_
  refine c_region ?_
  refine o_pure (p_move (v := .int .i64 (Flight.check l)) rfl) rfl rfl rfl ?_
  refine o_pure (p_assign (v := .int .i64 (Flight.check l)) rfl) rfl rfl rfl ?_
  refine o_nil ?_
  refine q_then ?_
  refine c_seq ?_
  refine c_region ?_
  refine o_pure (p_assign (v := .slice none 0 0) rfl) rfl rfl rfl ?_
  refine o_pure (p_assign (v := .slice none 0 0) rfl) rfl rfl rfl ?_
  refine o_pure (p_assign (v := .slice none 0 0) rfl) rfl rfl rfl ?_
  refine o_nil ?_
  refine q_then ?_
  refine c_seq ?_
  refine c_region ?_
  refine o_pure (p_assign (v := .int .i64 0) rfl) rfl rfl rfl ?_
  refine o_nil ?_
  refine q_then ?_
  refine c_seq ?_
  refine c_seq ?_
  refine c_region ?_
  refine o_pure (p_move (v := .int .i64 (Flight.check l)) rfl) rfl rfl rfl ?_
  refine o_pure (p_eq (p := (Flight.check l)) (q := 0) rfl rfl) rfl rfl rfl ?_
  refine o_nil ?_
  refine q_then ?_
  refine c_cond (b := ((Flight.check l) == 0)) rfl (fun hc11 => ?_) (fun hc11 => ?_)
  · simp only [beq_iff_eq] at hc11
    refine c_seq ?_
    refine c_region ?_
    refine o_pure (p_move (v := .slice al l.length cl) rfl) rfl rfl rfl ?_
    refine o_callM rfl (crowdWho_ok l al cl (by first | assumption | omega | exact Flight.check_len' (by assumption))) hf28 (fun w hw => (rd_base (i := 2) rfl hl) w hw) rfl (fun _ _ _ _ ha hA => SlO.agree ha hA) ?_
    rintro ⟨a14, c15⟩ S12
    refine o_pure (p_assign (v := .slice a14 (Ref.crowdWho l).length c15) rfl) rfl rfl rfl ?_
    refine o_nil ?_
    refine q_then ?_
    refine c_seq ?_
    refine c_seq ?_
    refine c_region ?_
    refine o_pure (p_move (v := .int .i64 at_) rfl) rfl rfl rfl ?_
    refine o_pure (p_lt (p := at_) (q := 0) rfl rfl) rfl rfl rfl ?_
    refine o_pure (p_move (v := .bool (decide (at_ < 0))) rfl) rfl rfl rfl ?_
    refine o_or (p := 49) 3 (decide (1099511627776 < at_)) ?_ ?_ ?_
    · intro hb16 hk
      simp only [decide_eq_false_iff_not, Int.not_lt] at hb16
      refine o_unguard 46 rfl rfl ?_
      refine o_pure (p_move (v := .int .i64 at_) rfl) rfl rfl rfl ?_
      refine o_unguard 46 rfl rfl ?_
      refine o_pure (p_gt (p := at_) (q := 1099511627776) rfl rfl) rfl rfl rfl ?_
      refine o_pure (p_pick_false (v := .bool (decide (1099511627776 < at_))) rfl rfl) rfl rfl rfl ?_
      exact o_sub (Sub.cons rfl (Sub.skip rfl (Sub.skip rfl (Sub.skip rfl (Sub.skip rfl (Sub.refl _)))))) hk
    · intro hb16 hk
      refine o_guard_no rfl 46 rfl rfl rfl rfl rfl ?_
      refine o_guard_no rfl 46 rfl rfl rfl rfl rfl ?_
      refine o_pure (p_pick_true (u := .bool true) rfl rfl) rfl rfl rfl ?_
      exact o_sub (Sub.cons rfl (Sub.skip rfl (Sub.skip rfl (Sub.skip rfl (Sub.skip rfl (Sub.refl _)))))) hk
    refine o_nil ?_
    refine q_then ?_
    refine c_cond (b := (decide (at_ < 0) || decide (1099511627776 < at_))) rfl (fun hc17 => ?_) (fun hc17 => ?_)
    · simp only [Bool.or_eq_true, decide_eq_true_eq] at hc17
      refine c_region ?_
      refine o_pure (p_assign (v := .int .i64 3) rfl) rfl rfl rfl ?_
      refine o_nil ?_
      refine q_then ?_
      refine c_seq ?_
      refine c_region ?_
      refine o_pure (p_assign (v := .int .i64 0) rfl) rfl rfl rfl ?_
      refine o_nil ?_
      refine q_then ?_
      refine c_block ?_
      refine c_ownNil tInt ?_
      refine c_ownNil tInt ?_
      refine c_loop (St := List Int × Option Addr × Nat × (Nat → Prop) × List Int × Option Addr × Nat × (Nat → Prop) × Int × Nat)
        (fun ⟨ends, aends, cends, Sends, busy, abusy, cbusy, Sbusy, loads, i⟩ => [(0, .slice al l.length cl), (1, .int .i64 at_), (5, .slice a3 (Flight.who l).length c4), (6, .slice a5 (Flight.when_ l).length c6), (7, .int .i64 (Flight.check l)), (8, .int .i64 (Flight.loads l)), (9, .int .i64 (Flight.check l)), (10, .slice a9 (Flight.active l at_).length c10), (11, .int .i64 (Flight.activeErr l at_)), (12, .int .i64 (Flight.check l)), (13, .int .i64 3), (14, .slice a14 (Ref.crowdWho l).length c15), (15, .slice aends ends.length cends), (16, .slice abusy busy.length cbusy), (17, .int .i64 loads), (18, .int .i64 (i : Int))])
        (fun ⟨ends, aends, cends, Sends, busy, abusy, cbusy, Sbusy, loads, i⟩ => [own tInt Sbusy abusy cbusy busy, own tInt Sends aends cends ends, own tInt S12 a14 c15 (Ref.crowdWho l), own tInt S7 a9 c10 (Flight.active l at_), ⟨S1, fun w => SlR tInt S1 w a3 c4 (Flight.who l) ∧ SlR tInt S1 w a5 c6 (Flight.when_ l)⟩, base w0])
        (fun ⟨ends, aends, cends, Sends, busy, abusy, cbusy, Sbusy, loads, i⟩ => i ≤ l.length ∧ ends = ((Flight.plan l).take i).map (·.ends) ∧ (0 ≤ loads ∧ loads ≤ i ∧ loads + Flight.countOwn i ((Flight.plan l).drop i) = Flight.countOwn 0 (Flight.plan l)) ∧ busy.length ≤ i ∧ (Flight.activeErr l at_ = 0 → busy ++ Flight.activeGo at_ i (l.drop i) ((Flight.plan l).drop i) = Flight.activeGo at_ 0 l (Flight.plan l)) ∧ (Flight.activeErr l at_ ≠ 0 → busy = []))
        (fun ⟨ends, aends, cends, Sends, busy, abusy, cbusy, Sbusy, loads, i⟩ => l.length - i)
        ([], none, 0, (fun _ => False), [], none, 0, (fun _ => False), 0, 0) ?_ (Sub.cons rfl (Sub.cons rfl (Sub.cons rfl (Sub.cons rfl (Sub.cons rfl (Sub.cons rfl (Sub.cons rfl (Sub.cons rfl (Sub.cons rfl (Sub.cons rfl (Sub.cons rfl (Sub.cons rfl (Sub.cons rfl (Sub.cons rfl (Sub.cons rfl (Sub.cons rfl (Sub.nil _))))))))))))))))) (fun _ hw => hw) ?_
      · simp
      rintro ⟨ends, aends, cends, Sends, busy, abusy, cbusy, Sbusy, loads, i⟩ hI K hK20
      obtain ⟨hi, hends, ⟨hl0, hl1, hl2⟩, hb0, hb1, hb2⟩ := hI
      have helen : ends.length ≤ i := by rw [hends]; simp; omega
      show SC Try.prog 142 w0 _ _ [(0, .slice al l.length cl), (1, .int .i64 at_), (5, .slice a3 (Flight.who l).length c4), (6, .slice a5 (Flight.when_ l).length c6), (7, .int .i64 (Flight.check l)), (8, .int .i64 (Flight.loads l)), (9, .int .i64 (Flight.check l)), (10, .slice a9 (Flight.active l at_).length c10), (11, .int .i64 (Flight.activeErr l at_)), (12, .int .i64 (Flight.check l)), (13, .int .i64 3), (14, .slice a14 (Ref.crowdWho l).length c15), (15, .slice aends ends.length cends), (16, .slice abusy busy.length cbusy), (17, .int .i64 loads), (18, .int .i64 (i : Int))] [own tInt Sbusy abusy cbusy busy, own tInt Sends aends cends ends, own tInt S12 a14 c15 (Ref.crowdWho l), own tInt S7 a9 c10 (Flight.active l at_), ⟨S1, fun w => SlR tInt S1 w a3 c4 (Flight.who l) ∧ SlR tInt S1 w a5 c6 (Flight.when_ l)⟩, base w0]
      refine c_seq ?_
      refine c_seq ?_
      refine c_region ?_
      refine o_pure (p_move (v := .int .i64 (i : Int)) rfl) rfl rfl rfl ?_
      refine o_pure (p_move (v := .slice al l.length cl) rfl) rfl rfl rfl ?_
      refine o_pure (p_len_slice (len := l.length) rfl rfl Try.underlying37) rfl rfl rfl ?_
      refine o_pure (p_lt (p := (i : Int)) (q := (l.length : Int)) rfl rfl) rfl rfl rfl ?_
      refine o_nil ?_
      refine q_then ?_
      refine c_cond (b := decide ((i : Int) < (l.length : Int))) rfl (fun hc21 => ?_) (fun hc21 => ?_)
      · simp only [decide_eq_true_eq] at hc21
        have hch : Flight.check l = 0 := by assumption
        have hi2 : i < l.length := by omega
        obtain ⟨j, hj0, hj1, hj2, hj3, hj4, hj5, hj6, hj7, hj8⟩ := Flight.each2 hch hi2
        have hpl := Flight.plan_length l
        have hcl := Flight.crowdWho_length l
        have h60 := Flight.check_len hch
        refine c_skip ?_
        refine q_then ?_
        refine c_seq ?_
        refine c_block ?_
        refine c_seq ?_
        refine c_region ?_
        refine o_pure (p_move (v := .slice al l.length cl) rfl) rfl rfl rfl ?_
        refine o_pure (p_move (v := .slice a14 (Ref.crowdWho l).length c15) rfl) rfl rfl rfl ?_
        refine o_pure (p_move (v := .int .i64 (i : Int)) rfl) rfl rfl rfl ?_
        refine o_pure (p_indexAddr (L := (Ref.crowdWho l)) (T := tInt) (i := (i : Int)) rfl rfl (rd_own (i := 2) rfl) Try.underlying38 sz3 (by omega) (by omega)) rfl rfl rfl ?_
        refine o_pure (p_loadE1 (i := i) (T := tInt) (L := (Ref.crowdWho l)) (v := .int .i64 ((Ref.crowdWho l)[i])) rfl (rd_own (i := 2) rfl) (by first | assumption | omega) sh3 rfl) rfl rfl rfl ?_
        refine o_pure (p_indexAddr (L := l) (T := tCall) (i := (Ref.crowdWho l)[i]) rfl rfl (rd_base (i := 5) rfl hl) Try.underlying37 sz47 (by omega) (by omega)) rfl rfl rfl ?_
        refine o_pure (p_loadEn (i := ((Ref.crowdWho l)[i]).toNat) (T := tCall) (L := l) (vs := [.int .i64 ((l[((Ref.crowdWho l)[i]).toNat]).key), .int .i64 ((l[((Ref.crowdWho l)[i]).toNat]).at_), .int .i64 ((l[((Ref.crowdWho l)[i]).toNat]).long)]) rfl (rd_base (i := 5) rfl hl) (by first | assumption | omega) sh47 rfl) rfl rfl rfl ?_
        refine o_alloc ze47 rfl (fun B22 => ?_)
        refine o_storeN (i := 0) (vs := [.int .i64 ((l[((Ref.crowdWho l)[i]).toNat]).key), .int .i64 ((l[((Ref.crowdWho l)[i]).toNat]).at_), .int .i64 ((l[((Ref.crowdWho l)[i]).toNat]).long)]) (cs' := [.int .i64 ((l[((Ref.crowdWho l)[i]).toNat]).key), .int .i64 ((l[((Ref.crowdWho l)[i]).toNat]).at_), .int .i64 ((l[((Ref.crowdWho l)[i]).toNat]).long)]) rfl rfl rfl sz47 rfl rfl rfl rfl ?_
        refine o_nil ?_
        refine q_then ?_
        refine c_seq ?_
        refine c_region ?_
        refine o_pure (p_move (v := .slice aends ends.length cends) rfl) rfl rfl rfl ?_
        refine o_pure (p_fieldAddr (B := B22) (j := 0) (j' := 1) rfl fo47_1 rfl) rfl rfl rfl ?_
        refine o_pure (p_load (i := 0) (v := .int .i64 ((l[((Ref.crowdWho l)[i]).toNat]).at_)) rfl rfl sh3 rfl) rfl rfl rfl ?_
        refine o_pure (p_fieldAddr (B := B22) (j := 0) (j' := 2) rfl fo47_2 rfl) rfl rfl rfl ?_
        refine o_pure (p_load (i := 0) (v := .int .i64 ((l[((Ref.crowdWho l)[i]).toNat]).long)) rfl rfl sh3 rfl) rfl rfl rfl ?_
        refine o_pure (p_add (p := (l[((Ref.crowdWho l)[i]).toNat]).at_) (q := (l[((Ref.crowdWho l)[i]).toNat]).long) rfl rfl) rfl rfl rfl ?_
        refine o_buildSlice (m := 1) (T := tInt) (L := [(IntKind.i64.wrap ((l[((Ref.crowdWho l)[i]).toNat]).at_ + (l[((Ref.crowdWho l)[i]).toNat]).long))]) (vs := [.int .i64 (IntKind.i64.wrap ((l[((Ref.crowdWho l)[i]).toNat]).at_ + (l[((Ref.crowdWho l)[i]).toNat]).long))]) rfl rfl rfl rfl Try.underlying38 sz3 (by decide) ze3 rfl (by decide) rfl (fun S23 a24 => ?_)
        refine o_append (i := 3) (L := ends) (M := [(IntKind.i64.wrap ((l[((Ref.crowdWho l)[i]).toNat]).at_ + (l[((Ref.crowdWho l)[i]).toNat]).long))]) (T := tInt) rfl rfl rfl (rd_own (i := 0) rfl) Try.underlying38 Try.underlying38 (by intro k h; cases h) el3 (by intro z; simp [tInt, one1]) (by decide) (by simp only [List.length_cons, List.length_nil]; omega) rfl (fun a26 c27 S28 => ?_)
        refine o_pure (p_assign (v := .slice a26 (ends ++ [(IntKind.i64.wrap ((l[((Ref.crowdWho l)[i]).toNat]).at_ + (l[((Ref.crowdWho l)[i]).toNat]).long))]).length c27) rfl) rfl rfl rfl ?_
        refine o_nil ?_
        refine q_then ?_
        refine c_seq ?_
        refine c_region ?_
        refine o_pure (p_move (v := .slice a14 (Ref.crowdWho l).length c15) rfl) rfl rfl rfl ?_
        refine o_pure (p_move (v := .int .i64 (i : Int)) rfl) rfl rfl rfl ?_
        refine o_pure (p_indexAddr (L := (Ref.crowdWho l)) (T := tInt) (i := (i : Int)) rfl rfl (rd_own (i := 4) rfl) Try.underlying38 sz3 (by omega) (by omega)) rfl rfl rfl ?_
        refine o_pure (p_loadE1 (i := i) (T := tInt) (L := (Ref.crowdWho l)) (v := .int .i64 ((Ref.crowdWho l)[i])) rfl (rd_own (i := 4) rfl) (by first | assumption | omega) sh3 rfl) rfl rfl rfl ?_
        refine o_pure (p_move (v := .int .i64 (i : Int)) rfl) rfl rfl rfl ?_
        refine o_pure (p_eq (p := (Ref.crowdWho l)[i]) (q := (i : Int)) rfl rfl) rfl rfl rfl ?_
        refine o_nil ?_
        refine q_then ?_
        refine c_cond (b := ((Ref.crowdWho l)[i] == (i : Int))) rfl (fun hc29 => ?_) (fun hc29 => ?_)
        · simp only [beq_iff_eq] at hc29
          refine c_seq ?_
          refine c_region ?_
          refine o_pure (p_move (v := .int .i64 loads) rfl) rfl rfl rfl ?_
          refine o_pure (p_addb (p := loads) (q := 1) rfl rfl (by omega)) rfl rfl rfl ?_
          refine o_pure (p_assign (v := .int .i64 (loads + 1)) rfl) rfl rfl rfl ?_
          refine o_nil ?_
          refine q_then ?_
          refine c_seq ?_
          refine c_region ?_
          refine o_pure (p_move (v := .int .i64 3) rfl) rfl rfl rfl ?_
          refine o_pure (p_eq (p := 3) (q := 0) rfl rfl) rfl rfl rfl ?_
          refine o_pure (p_move (v := .bool false) rfl) rfl rfl rfl ?_
          refine o_guard_no rfl 81 rfl rfl rfl rfl rfl ?_
          refine o_guard_no rfl 81 rfl rfl rfl rfl rfl ?_
          refine o_guard_no rfl 81 rfl rfl rfl rfl rfl ?_
          refine o_guard_no rfl 81 rfl rfl rfl rfl rfl ?_
          refine o_pure (p_pick_false (v := .bool false) rfl rfl) rfl rfl rfl ?_
          refine o_pure (p_move (v := .bool false) rfl) rfl rfl rfl ?_
          refine o_guard_no rfl 87 rfl rfl rfl rfl rfl ?_
          refine o_guard_no rfl 87 rfl rfl rfl rfl rfl ?_
          refine o_guard_no rfl 87 rfl rfl rfl rfl rfl ?_
          refine o_guard_no rfl 87 rfl rfl rfl rfl rfl ?_
          refine o_guard_no rfl 87 rfl rfl rfl rfl rfl ?_
          refine o_guard_no rfl 87 rfl rfl rfl rfl rfl ?_
          refine o_guard_no rfl 87 rfl rfl rfl rfl rfl ?_
          refine o_pure (p_pick_false (v := .bool false) rfl rfl) rfl rfl rfl ?_
          refine o_nil ?_
          refine q_then ?_
          refine c_false rfl ?_
          refine c_skip ?_
          refine q_block_normal (q_then ?_)
          refine c_region ?_
          refine o_pure (p_move (v := .int .i64 (i : Int)) rfl) rfl rfl rfl ?_
          refine o_pure (p_addb (p := (i : Int)) (q := 1) rfl rfl (by omega)) rfl rfl rfl ?_
          refine o_pure (p_assign (v := .int .i64 ((i : Int) + 1)) rfl) rfl rfl rfl ?_
          refine o_nil ?_
          refine q_round hK20 ((ends ++ [(IntKind.i64.wrap ((l[((Ref.crowdWho l)[i]).toNat]).at_ + (l[((Ref.crowdWho l)[i]).toNat]).long))]), a26, c27, S28, busy, abusy, cbusy, Sbusy, (loads + 1), i + 1) ?_ ?_ ?_ ?_
          · clear hK20
            dsimp only
            have hd1 : (Flight.plan l).drop i = (Flight.plan l)[i] :: (Flight.plan l).drop (i + 1) := List.drop_eq_getElem_cons (by omega)
            have hd2 : l.drop i = l[i] :: l.drop (i + 1) := List.drop_eq_getElem_cons (by omega)
            rw [hd1, Flight.countOwn] at hl2
            rw [hd1, hd2, Flight.activeGo] at hb1
            have hx : ((Ref.crowdWho l)[i]).toNat = j := by rw [hj1]; exact Int.toNat_natCast j
            simp only [hx] at *
            have hpi : i < (Flight.plan l).length := by omega
            have hii : ((i + 1 : Nat) : Int) = (i : Int) + 1 := by omega
            rw [hii]
            refine ⟨by omega, ?_, ?_, ?_, ?_, ?_⟩
            · rw [List.take_succ_eq_append_getElem hpi, List.map_append, ← hends, List.map_singleton, hj4]
            · split at hl2 <;> first | (exfalso; omega) | (refine ⟨by omega, by omega, by omega⟩)
            · first | omega | (rw [List.length_append, List.length_singleton]; omega)
            · intro ha0; have hb := hb1 ha0; have hli : j = i → l[j].at_ = l[i].at_ := (fun e => by subst e; rfl); by_cases hji : j = i
              all_goals (first | have hlj := hli hji | skip)
              all_goals split at hb <;> first | (exfalso; simp only [Flight.activeErr] at ha0; rw [if_pos hch, if_pos (by omega)] at ha0; omega) | (exfalso; omega) | simpa using hb | exact hb
            · first | exact hb2 | (intro ha0; exfalso; apply ha0; simp only [Flight.activeErr]; rw [if_pos hch, if_neg (by omega)])
          · (try dsimp only); omega
          · exact Sub.cons rfl (Sub.cons rfl (Sub.cons rfl (Sub.cons rfl (Sub.cons rfl (Sub.cons rfl (Sub.cons rfl (Sub.cons rfl (Sub.cons rfl (Sub.cons rfl (Sub.cons rfl (Sub.cons rfl (Sub.cons rfl (Sub.cons rfl (Sub.cons rfl (Sub.cons rfl (Sub.nil _))))))))))))))))
          · exact fun _ hw => HeapIs.drop hw (List.Sublist.cons _ (List.Sublist.cons _ (List.Sublist.refl _)))
        · simp only [beq_eq_false_iff_ne, ne_eq] at hc29
          refine c_skip ?_
          refine q_block_normal (q_then ?_)
          refine c_region ?_
          refine o_pure (p_move (v := .int .i64 (i : Int)) rfl) rfl rfl rfl ?_
          refine o_pure (p_addb (p := (i : Int)) (q := 1) rfl rfl (by omega)) rfl rfl rfl ?_
          refine o_pure (p_assign (v := .int .i64 ((i : Int) + 1)) rfl) rfl rfl rfl ?_
          refine o_nil ?_
          refine q_round hK20 ((ends ++ [(IntKind.i64.wrap ((l[((Ref.crowdWho l)[i]).toNat]).at_ + (l[((Ref.crowdWho l)[i]).toNat]).long))]), a26, c27, S28, busy, abusy, cbusy, Sbusy, loads, i + 1) ?_ ?_ ?_ ?_
          · clear hK20
            dsimp only
            have hd1 : (Flight.plan l).drop i = (Flight.plan l)[i] :: (Flight.plan l).drop (i + 1) := List.drop_eq_getElem_cons (by omega)
            have hd2 : l.drop i = l[i] :: l.drop (i + 1) := List.drop_eq_getElem_cons (by omega)
            rw [hd1, Flight.countOwn] at hl2
            rw [hd1, hd2, Flight.activeGo] at hb1
            have hx : ((Ref.crowdWho l)[i]).toNat = j := by rw [hj1]; exact Int.toNat_natCast j
            simp only [hx] at *
            have hpi : i < (Flight.plan l).length := by omega
            have hii : ((i + 1 : Nat) : Int) = (i : Int) + 1 := by omega
            rw [hii]
            refine ⟨by omega, ?_, ?_, ?_, ?_, ?_⟩
            · rw [List.take_succ_eq_append_getElem hpi, List.map_append, ← hends, List.map_singleton, hj4]
            · split at hl2 <;> first | (exfalso; omega) | (refine ⟨by omega, by omega, by omega⟩)
            · first | omega | (rw [List.length_append, List.length_singleton]; omega)
            · intro ha0; have hb := hb1 ha0; have hli : j = i → l[j].at_ = l[i].at_ := (fun e => by subst e; rfl); by_cases hji : j = i
              all_goals (first | have hlj := hli hji | skip)
              all_goals split at hb <;> first | (exfalso; simp only [Flight.activeErr] at ha0; rw [if_pos hch, if_pos (by omega)] at ha0; omega) | (exfalso; omega) | simpa using hb | exact hb
            · first | exact hb2 | (intro ha0; exfalso; apply ha0; simp only [Flight.activeErr]; rw [if_pos hch, if_neg (by omega)])
          · (try dsimp only); omega
          · exact Sub.cons rfl (Sub.cons rfl (Sub.cons rfl (Sub.cons rfl (Sub.cons rfl (Sub.cons rfl (Sub.cons rfl (Sub.cons rfl (Sub.cons rfl (Sub.cons rfl (Sub.cons rfl (Sub.cons rfl (Sub.cons rfl (Sub.cons rfl (Sub.cons rfl (Sub.cons rfl (Sub.nil _))))))))))))))))
          · exact fun _ hw => HeapIs.drop hw (List.Sublist.cons _ (List.Sublist.cons _ (List.Sublist.refl _)))
      · simp only [decide_eq_false_iff_not, Int.not_lt] at hc21
        refine c_exit ?_
        refine q_then_exit (q_then_exit (q_block_exit (q_then ?_)))
        refine c_seq ?_
        refine c_region ?_
        refine o_call0 (v := .bool true) rfl (crowdBegun_ok ) hf29 (fun _ _ => trivial) rfl ?_
        refine o_pure (p_move (v := .bool true) rfl) rfl rfl rfl ?_
        refine o_unguard 101 rfl rfl ?_
        refine o_pure (p_move (v := .slice al l.length cl) rfl) rfl rfl rfl ?_
        refine o_unguard 101 rfl rfl ?_
        refine o_call0 (v := .int .i64 (Flight.check l)) rfl (check_ok l al cl) hf30 (fun w hw => (rd_base (i := 5) rfl hl) w hw) rfl ?_
        refine o_unguard 101 rfl rfl ?_
        refine o_pure (p_move (v := .int .i64 (Flight.check l)) rfl) rfl rfl rfl ?_
        refine o_unguard 101 rfl rfl ?_
        refine o_pure (p_eq (p := (Flight.check l)) (q := (Flight.check l)) rfl rfl) rfl rfl rfl ?_
        refine o_pure (p_pick_true (u := .bool ((Flight.check l) == (Flight.check l))) rfl rfl) rfl rfl rfl ?_
        refine o_pure (p_move (v := .bool ((Flight.check l) == (Flight.check l))) rfl) rfl rfl rfl ?_
        refine o_and (p := 111) 4 (Ref.sameInts (Flight.who l) (Ref.crowdWho l)) ?_ ?_ ?_
        · intro hb30 hk
          simp only [beq_iff_eq] at hb30
          refine o_unguard 107 rfl rfl ?_
          refine o_pure (p_move (v := .slice a3 (Flight.who l).length c4) rfl) rfl rfl rfl ?_
          refine o_unguard 107 rfl rfl ?_
          refine o_pure (p_move (v := .slice a14 (Ref.crowdWho l).length c15) rfl) rfl rfl rfl ?_
          refine o_unguard 107 rfl rfl ?_
          refine o_call0 (v := .bool (Ref.sameInts (Flight.who l) (Ref.crowdWho l))) rfl (sameInts_ok (Flight.who l) a3 c4 (Ref.crowdWho l) a14 c15) hf31 (fun w hw => ⟨(rd_ent (i := 4) rfl (fun w h => h.1)) w hw, (rd_own (i := 2) rfl) w hw⟩) rfl ?_
          refine o_pure (p_pick_true (u := .bool (Ref.sameInts (Flight.who l) (Ref.crowdWho l))) rfl rfl) rfl rfl rfl ?_
          exact o_sub (Sub.cons rfl (Sub.skip rfl (Sub.skip rfl (Sub.skip rfl (Sub.skip rfl (Sub.skip rfl (Sub.refl _))))))) hk
        · intro hb30 hk
          refine o_guard_no rfl 107 rfl rfl rfl rfl rfl ?_
          refine o_guard_no rfl 107 rfl rfl rfl rfl rfl ?_
          refine o_guard_no rfl 107 rfl rfl rfl rfl rfl ?_
          refine o_pure (p_pick_false (v := .bool false) rfl rfl) rfl rfl rfl ?_
          exact o_sub (Sub.cons rfl (Sub.skip rfl (Sub.skip rfl (Sub.skip rfl (Sub.skip rfl (Sub.skip rfl (Sub.refl _))))))) hk
        refine o_pure (p_move (v := .bool (((Flight.check l) == (Flight.check l)) && (Ref.sameInts (Flight.who l) (Ref.crowdWho l)))) rfl) rfl rfl rfl ?_
        refine o_and (p := 116) 4 (Ref.sameInts (Flight.when_ l) ends) ?_ ?_ ?_
        · intro hb31 hk
          simp only [Bool.and_eq_true, beq_iff_eq] at hb31
          refine o_unguard 112 rfl rfl ?_
          refine o_pure (p_move (v := .slice a5 (Flight.when_ l).length c6) rfl) rfl rfl rfl ?_
          refine o_unguard 112 rfl rfl ?_
          refine o_pure (p_move (v := .slice aends ends.length cends) rfl) rfl rfl rfl ?_
          refine o_unguard 112 rfl rfl ?_
          refine o_call0 (v := .bool (Ref.sameInts (Flight.when_ l) ends)) rfl (sameInts_ok (Flight.when_ l) a5 c6 ends aends cends) hf31 (fun w hw => ⟨(rd_ent (i := 4) rfl (fun w h => h.2)) w hw, (rd_own (i := 1) rfl) w hw⟩) rfl ?_
          refine o_pure (p_pick_true (u := .bool (Ref.sameInts (Flight.when_ l) ends)) rfl rfl) rfl rfl rfl ?_
          exact o_sub (Sub.cons rfl (Sub.skip rfl (Sub.skip rfl (Sub.skip rfl (Sub.skip rfl (Sub.skip rfl (Sub.refl _))))))) hk
        · intro hb31 hk
          refine o_guard_no rfl 112 rfl rfl rfl rfl rfl ?_
          refine o_guard_no rfl 112 rfl rfl rfl rfl rfl ?_
          refine o_guard_no rfl 112 rfl rfl rfl rfl rfl ?_
          refine o_pure (p_pick_false (v := .bool false) rfl rfl) rfl rfl rfl ?_
          exact o_sub (Sub.cons rfl (Sub.skip rfl (Sub.skip rfl (Sub.skip rfl (Sub.skip rfl (Sub.skip rfl (Sub.refl _))))))) hk
        refine o_pure (p_move (v := .bool ((((Flight.check l) == (Flight.check l)) && (Ref.sameInts (Flight.who l) (Ref.crowdWho l))) && (Ref.sameInts (Flight.when_ l) ends))) rfl) rfl rfl rfl ?_
        refine o_and (p := 121) 4 ((Flight.check l) == (Flight.check l)) ?_ ?_ ?_
        · intro hb32 hk
          simp only [Bool.and_eq_true, beq_iff_eq] at hb32
          refine o_unguard 117 rfl rfl ?_
          refine o_pure (p_move (v := .int .i64 (Flight.check l)) rfl) rfl rfl rfl ?_
          refine o_unguard 117 rfl rfl ?_
          refine o_pure (p_move (v := .int .i64 (Flight.check l)) rfl) rfl rfl rfl ?_
          refine o_unguard 117 rfl rfl ?_
          refine o_pure (p_eq (p := (Flight.check l)) (q := (Flight.check l)) rfl rfl) rfl rfl rfl ?_
          refine o_pure (p_pick_true (u := .bool ((Flight.check l) == (Flight.check l))) rfl rfl) rfl rfl rfl ?_
          exact o_sub (Sub.cons rfl (Sub.skip rfl (Sub.skip rfl (Sub.skip rfl (Sub.skip rfl (Sub.skip rfl (Sub.refl _))))))) hk
        · intro hb32 hk
          refine o_guard_no rfl 117 rfl rfl rfl rfl rfl ?_
          refine o_guard_no rfl 117 rfl rfl rfl rfl rfl ?_
          refine o_guard_no rfl 117 rfl rfl rfl rfl rfl ?_
          refine o_pure (p_pick_false (v := .bool false) rfl rfl) rfl rfl rfl ?_
          exact o_sub (Sub.cons rfl (Sub.skip rfl (Sub.skip rfl (Sub.skip rfl (Sub.skip rfl (Sub.skip rfl (Sub.refl _))))))) hk
        refine o_pure (p_move (v := .bool (((((Flight.check l) == (Flight.check l)) && (Ref.sameInts (Flight.who l) (Ref.crowdWho l))) && (Ref.sameInts (Flight.when_ l) ends)) && ((Flight.check l) == (Flight.check l)))) rfl) rfl rfl rfl ?_
        refine o_and (p := 126) 4 ((Flight.loads l) == loads) ?_ ?_ ?_
        · intro hb33 hk
          simp only [Bool.and_eq_true, beq_iff_eq] at hb33
          refine o_unguard 122 rfl rfl ?_
          refine o_pure (p_move (v := .int .i64 (Flight.loads l)) rfl) rfl rfl rfl ?_
          refine o_unguard 122 rfl rfl ?_
          refine o_pure (p_move (v := .int .i64 loads) rfl) rfl rfl rfl ?_
          refine o_unguard 122 rfl rfl ?_
          refine o_pure (p_eq (p := (Flight.loads l)) (q := loads) rfl rfl) rfl rfl rfl ?_
          refine o_pure (p_pick_true (u := .bool ((Flight.loads l) == loads)) rfl rfl) rfl rfl rfl ?_
          exact o_sub (Sub.cons rfl (Sub.skip rfl (Sub.skip rfl (Sub.skip rfl (Sub.skip rfl (Sub.skip rfl (Sub.refl _))))))) hk
        · intro hb33 hk
          refine o_guard_no rfl 122 rfl rfl rfl rfl rfl ?_
          refine o_guard_no rfl 122 rfl rfl rfl rfl rfl ?_
          refine o_guard_no rfl 122 rfl rfl rfl rfl rfl ?_
          refine o_pure (p_pick_false (v := .bool false) rfl rfl) rfl rfl rfl ?_
          exact o_sub (Sub.cons rfl (Sub.skip rfl (Sub.skip rfl (Sub.skip rfl (Sub.skip rfl (Sub.skip rfl (Sub.refl _))))))) hk
        refine o_pure (p_move (v := .bool ((((((Flight.check l) == (Flight.check l)) && (Ref.sameInts (Flight.who l) (Ref.crowdWho l))) && (Ref.sameInts (Flight.when_ l) ends)) && ((Flight.check l) == (Flight.check l))) && ((Flight.loads l) == loads))) rfl) rfl rfl rfl ?_
        refine o_and (p := 131) 4 ((Flight.check l) == (Flight.check l)) ?_ ?_ ?_
        · intro hb34 hk
          simp only [Bool.and_eq_true, beq_iff_eq] at hb34
          refine o_unguard 127 rfl rfl ?_
          refine o_pure (p_move (v := .int .i64 (Flight.check l)) rfl) rfl rfl rfl ?_
          refine o_unguard 127 rfl rfl ?_
          refine o_pure (p_move (v := .int .i64 (Flight.check l)) rfl) rfl rfl rfl ?_
          refine o_unguard 127 rfl rfl ?_
          refine o_pure (p_eq (p := (Flight.check l)) (q := (Flight.check l)) rfl rfl) rfl rfl rfl ?_
          refine o_pure (p_pick_true (u := .bool ((Flight.check l) == (Flight.check l))) rfl rfl) rfl rfl rfl ?_
          exact o_sub (Sub.cons rfl (Sub.skip rfl (Sub.skip rfl (Sub.skip rfl (Sub.skip rfl (Sub.skip rfl (Sub.refl _))))))) hk
        · intro hb34 hk
          refine o_guard_no rfl 127 rfl rfl rfl rfl rfl ?_
          refine o_guard_no rfl 127 rfl rfl rfl rfl rfl ?_
          refine o_guard_no rfl 127 rfl rfl rfl rfl rfl ?_
          refine o_pure (p_pick_false (v := .bool false) rfl rfl) rfl rfl rfl ?_
          exact o_sub (Sub.cons rfl (Sub.skip rfl (Sub.skip rfl (Sub.skip rfl (Sub.skip rfl (Sub.skip rfl (Sub.refl _))))))) hk
        refine o_pure (p_move (v := .bool (((((((Flight.check l) == (Flight.check l)) && (Ref.sameInts (Flight.who l) (Ref.crowdWho l))) && (Ref.sameInts (Flight.when_ l) ends)) && ((Flight.check l) == (Flight.check l))) && ((Flight.loads l) == loads)) && ((Flight.check l) == (Flight.check l)))) rfl) rfl rfl rfl ?_
        refine o_and (p := 136) 4 (Ref.sameInts (Flight.active l at_) busy) ?_ ?_ ?_
        · intro hb35 hk
          simp only [Bool.and_eq_true, beq_iff_eq] at hb35
          refine o_unguard 132 rfl rfl ?_
          refine o_pure (p_move (v := .slice a9 (Flight.active l at_).length c10) rfl) rfl rfl rfl ?_
          refine o_unguard 132 rfl rfl ?_
          refine o_pure (p_move (v := .slice abusy busy.length cbusy) rfl) rfl rfl rfl ?_
          refine o_unguard 132 rfl rfl ?_
          refine o_call0 (v := .bool (Ref.sameInts (Flight.active l at_) busy)) rfl (sameInts_ok (Flight.active l at_) a9 c10 busy abusy cbusy) hf31 (fun w hw => ⟨(rd_own (i := 3) rfl) w hw, (rd_own (i := 0) rfl) w hw⟩) rfl ?_
          refine o_pure (p_pick_true (u := .bool (Ref.sameInts (Flight.active l at_) busy)) rfl rfl) rfl rfl rfl ?_
          exact o_sub (Sub.cons rfl (Sub.skip rfl (Sub.skip rfl (Sub.skip rfl (Sub.skip rfl (Sub.skip rfl (Sub.refl _))))))) hk
        · intro hb35 hk
          refine o_guard_no rfl 132 rfl rfl rfl rfl rfl ?_
          refine o_guard_no rfl 132 rfl rfl rfl rfl rfl ?_
          refine o_guard_no rfl 132 rfl rfl rfl rfl rfl ?_
          refine o_pure (p_pick_false (v := .bool false) rfl rfl) rfl rfl rfl ?_
          exact o_sub (Sub.cons rfl (Sub.skip rfl (Sub.skip rfl (Sub.skip rfl (Sub.skip rfl (Sub.skip rfl (Sub.refl _))))))) hk
        refine o_pure (p_move (v := .bool ((((((((Flight.check l) == (Flight.check l)) && (Ref.sameInts (Flight.who l) (Ref.crowdWho l))) && (Ref.sameInts (Flight.when_ l) ends)) && ((Flight.check l) == (Flight.check l))) && ((Flight.loads l) == loads)) && ((Flight.check l) == (Flight.check l))) && (Ref.sameInts (Flight.active l at_) busy))) rfl) rfl rfl rfl ?_
        refine o_and (p := 141) 4 ((Flight.activeErr l at_) == 3) ?_ ?_ ?_
        · intro hb36 hk
          simp only [Bool.and_eq_true, beq_iff_eq] at hb36
          refine o_unguard 137 rfl rfl ?_
          refine o_pure (p_move (v := .int .i64 (Flight.activeErr l at_)) rfl) rfl rfl rfl ?_
          refine o_unguard 137 rfl rfl ?_
          refine o_pure (p_move (v := .int .i64 3) rfl) rfl rfl rfl ?_
          refine o_unguard 137 rfl rfl ?_
          refine o_pure (p_eq (p := (Flight.activeErr l at_)) (q := 3) rfl rfl) rfl rfl rfl ?_
          refine o_pure (p_pick_true (u := .bool ((Flight.activeErr l at_) == 3)) rfl rfl) rfl rfl rfl ?_
          exact o_sub (Sub.cons rfl (Sub.skip rfl (Sub.skip rfl (Sub.skip rfl (Sub.skip rfl (Sub.skip rfl (Sub.refl _))))))) hk
        · intro hb36 hk
          refine o_guard_no rfl 137 rfl rfl rfl rfl rfl ?_
          refine o_guard_no rfl 137 rfl rfl rfl rfl rfl ?_
          refine o_guard_no rfl 137 rfl rfl rfl rfl rfl ?_
          refine o_pure (p_pick_false (v := .bool false) rfl rfl) rfl rfl rfl ?_
          exact o_sub (Sub.cons rfl (Sub.skip rfl (Sub.skip rfl (Sub.skip rfl (Sub.skip rfl (Sub.skip rfl (Sub.refl _))))))) hk
        refine o_pure (p_assign (v := .bool (((((((((Flight.check l) == (Flight.check l)) && (Ref.sameInts (Flight.who l) (Ref.crowdWho l))) && (Ref.sameInts (Flight.when_ l) ends)) && ((Flight.check l) == (Flight.check l))) && ((Flight.loads l) == loads)) && ((Flight.check l) == (Flight.check l))) && (Ref.sameInts (Flight.active l at_) busy)) && ((Flight.activeErr l at_) == 3))) rfl) rfl rfl rfl ?_
        refine o_nil ?_
        refine q_then ?_
        refine c_ret ?_
        refine q_end0 (v := .bool (((((((((Flight.check l) == (Flight.check l)) && (Ref.sameInts (Flight.who l) (Ref.crowdWho l))) && (Ref.sameInts (Flight.when_ l) ends)) && ((Flight.check l) == (Flight.check l))) && ((Flight.loads l) == loads)) && ((Flight.check l) == (Flight.check l))) && (Ref.sameInts (Flight.active l at_) busy)) && ((Flight.activeErr l at_) == 3))) (rt1 rfl (r_tmp rfl)) (i := 5) rfl ?_
        congr 1
        by_cases hch : Flight.check l = 0
        rotate_left
        · first | exact absurd (by assumption) hch | simp [Flight.who, Flight.when_, Flight.loads, Flight.active, Flight.activeErr, Ref.sameInts, hch]
        · first
          | exact absurd hch (by assumption)
          | have hwho := Flight.who_eq hch
            have hpl := Flight.plan_length l
            obtain rfl : i = l.length := by omega
            have hda : List.drop l.length (Flight.plan l) = [] := List.drop_of_length_le (by omega)
            have hta : List.take l.length (Flight.plan l) = Flight.plan l := List.take_of_length_le (by omega)
            rw [hda] at hl2 hb1
            rw [hta] at hends
            have e1 : Flight.who l = Ref.crowdWho l := by unfold Flight.who; rw [if_pos hch]; exact hwho
            have e2 : Flight.when_ l = ends := by unfold Flight.when_; rw [if_pos hch, hends]
            have e3 : Flight.loads l = loads := by unfold Flight.loads; rw [if_pos hch, ← hl2]; simp [Flight.countOwn]
            have e4 : Flight.active l at_ = busy := by
              unfold Flight.active; split
              · rename_i ha; rw [← hb1 ha]; simp [Flight.activeGo]
              · rename_i ha; exact (hb2 ha).symm
            have e5 : Flight.activeErr l at_ = if at_ < 0 ∨ 1099511627776 < at_ then 3 else 0 := by unfold Flight.activeErr; rw [if_pos hch]
            rw [e1, e2, e3, e4, e5]
            first | rw [if_pos (by omega)] | rw [if_neg (by omega)]
            simp [Ref.sameInts, hch]
    · simp only [Bool.or_eq_false_iff, decide_eq_false_iff_not, Int.not_lt] at hc17
      refine c_skip ?_
      refine q_then ?_
      refine c_seq ?_
      refine c_region ?_
      refine o_pure (p_assign (v := .int .i64 0) rfl) rfl rfl rfl ?_
      refine o_nil ?_
      refine q_then ?_
      refine c_block ?_
      refine c_ownNil tInt ?_
      refine c_ownNil tInt ?_
      refine c_loop (St := List Int × Option Addr × Nat × (Nat → Prop) × List Int × Option Addr × Nat × (Nat → Prop) × Int × Nat)
        (fun ⟨ends, aends, cends, Sends, busy, abusy, cbusy, Sbusy, loads, i⟩ => [(0, .slice al l.length cl), (1, .int .i64 at_), (5, .slice a3 (Flight.who l).length c4), (6, .slice a5 (Flight.when_ l).length c6), (7, .int .i64 (Flight.check l)), (8, .int .i64 (Flight.loads l)), (9, .int .i64 (Flight.check l)), (10, .slice a9 (Flight.active l at_).length c10), (11, .int .i64 (Flight.activeErr l at_)), (12, .int .i64 (Flight.check l)), (13, .int .i64 (Flight.check l)), (14, .slice a14 (Ref.crowdWho l).length c15), (15, .slice aends ends.length cends), (16, .slice abusy busy.length cbusy), (17, .int .i64 loads), (18, .int .i64 (i : Int))])
        (fun ⟨ends, aends, cends, Sends, busy, abusy, cbusy, Sbusy, loads, i⟩ => [own tInt Sbusy abusy cbusy busy, own tInt Sends aends cends ends, own tInt S12 a14 c15 (Ref.crowdWho l), own tInt S7 a9 c10 (Flight.active l at_), ⟨S1, fun w => SlR tInt S1 w a3 c4 (Flight.who l) ∧ SlR tInt S1 w a5 c6 (Flight.when_ l)⟩, base w0])
        (fun ⟨ends, aends, cends, Sends, busy, abusy, cbusy, Sbusy, loads, i⟩ => i ≤ l.length ∧ ends = ((Flight.plan l).take i).map (·.ends) ∧ (0 ≤ loads ∧ loads ≤ i ∧ loads + Flight.countOwn i ((Flight.plan l).drop i) = Flight.countOwn 0 (Flight.plan l)) ∧ busy.length ≤ i ∧ (Flight.activeErr l at_ = 0 → busy ++ Flight.activeGo at_ i (l.drop i) ((Flight.plan l).drop i) = Flight.activeGo at_ 0 l (Flight.plan l)) ∧ (Flight.activeErr l at_ ≠ 0 → busy = []))
        (fun ⟨ends, aends, cends, Sends, busy, abusy, cbusy, Sbusy, loads, i⟩ => l.length - i)
        ([], none, 0, (fun _ => False), [], none, 0, (fun _ => False), 0, 0) ?_ (Sub.cons rfl (Sub.cons rfl (Sub.cons rfl (Sub.cons rfl (Sub.cons rfl (Sub.cons rfl (Sub.cons rfl (Sub.cons rfl (Sub.cons rfl (Sub.cons rfl (Sub.cons rfl (Sub.cons rfl (Sub.cons rfl (Sub.cons rfl (Sub.cons rfl (Sub.cons rfl (Sub.nil _))))))))))))))))) (fun _ hw => hw) ?_
      · simp
      rintro ⟨ends, aends, cends, Sends, busy, abusy, cbusy, Sbusy, loads, i⟩ hI K hK39
      obtain ⟨hi, hends, ⟨hl0, hl1, hl2⟩, hb0, hb1, hb2⟩ := hI
      have helen : ends.length ≤ i := by rw [hends]; simp; omega
      show SC Try.prog 142 w0 _ _ [(0, .slice al l.length cl), (1, .int .i64 at_), (5, .slice a3 (Flight.who l).length c4), (6, .slice a5 (Flight.when_ l).length c6), (7, .int .i64 (Flight.check l)), (8, .int .i64 (Flight.loads l)), (9, .int .i64 (Flight.check l)), (10, .slice a9 (Flight.active l at_).length c10), (11, .int .i64 (Flight.activeErr l at_)), (12, .int .i64 (Flight.check l)), (13, .int .i64 (Flight.check l)), (14, .slice a14 (Ref.crowdWho l).length c15), (15, .slice aends ends.length cends), (16, .slice abusy busy.length cbusy), (17, .int .i64 loads), (18, .int .i64 (i : Int))] [own tInt Sbusy abusy cbusy busy, own tInt Sends aends cends ends, own tInt S12 a14 c15 (Ref.crowdWho l), own tInt S7 a9 c10 (Flight.active l at_), ⟨S1, fun w => SlR tInt S1 w a3 c4 (Flight.who l) ∧ SlR tInt S1 w a5 c6 (Flight.when_ l)⟩, base w0]
      refine c_seq ?_
      refine c_seq ?_
      refine c_region ?_
      refine o_pure (p_move (v := .int .i64 (i : Int)) rfl) rfl rfl rfl ?_
      refine o_pure (p_move (v := .slice al l.length cl) rfl) rfl rfl rfl ?_
      refine o_pure (p_len_slice (len := l.length) rfl rfl Try.underlying37) rfl rfl rfl ?_
      refine o_pure (p_lt (p := (i : Int)) (q := (l.length : Int)) rfl rfl) rfl rfl rfl ?_
      refine o_nil ?_
      refine q_then ?_
      refine c_cond (b := decide ((i : Int) < (l.length : Int))) rfl (fun hc40 => ?_) (fun hc40 => ?_)
      · simp only [decide_eq_true_eq] at hc40
        have hch : Flight.check l = 0 := by assumption
        have hi2 : i < l.length := by omega
        obtain ⟨j, hj0, hj1, hj2, hj3, hj4, hj5, hj6, hj7, hj8⟩ := Flight.each2 hch hi2
        have hpl := Flight.plan_length l
        have hcl := Flight.crowdWho_length l
        have h60 := Flight.check_len hch
        refine c_skip ?_
        refine q_then ?_
        refine c_seq ?_
        refine c_block ?_
        refine c_seq ?_
        refine c_region ?_
        refine o_pure (p_move (v := .slice al l.length cl) rfl) rfl rfl rfl ?_
        refine o_pure (p_move (v := .slice a14 (Ref.crowdWho l).length c15) rfl) rfl rfl rfl ?_
        refine o_pure (p_move (v := .int .i64 (i : Int)) rfl) rfl rfl rfl ?_
        refine o_pure (p_indexAddr (L := (Ref.crowdWho l)) (T := tInt) (i := (i : Int)) rfl rfl (rd_own (i := 2) rfl) Try.underlying38 sz3 (by omega) (by omega)) rfl rfl rfl ?_
        refine o_pure (p_loadE1 (i := i) (T := tInt) (L := (Ref.crowdWho l)) (v := .int .i64 ((Ref.crowdWho l)[i])) rfl (rd_own (i := 2) rfl) (by first | assumption | omega) sh3 rfl) rfl rfl rfl ?_
        refine o_pure (p_indexAddr (L := l) (T := tCall) (i := (Ref.crowdWho l)[i]) rfl rfl (rd_base (i := 5) rfl hl) Try.underlying37 sz47 (by omega) (by omega)) rfl rfl rfl ?_
        refine o_pure (p_loadEn (i := ((Ref.crowdWho l)[i]).toNat) (T := tCall) (L := l) (vs := [.int .i64 ((l[((Ref.crowdWho l)[i]).toNat]).key), .int .i64 ((l[((Ref.crowdWho l)[i]).toNat]).at_), .int .i64 ((l[((Ref.crowdWho l)[i]).toNat]).long)]) rfl (rd_base (i := 5) rfl hl) (by first | assumption | omega) sh47 rfl) rfl rfl rfl ?_
        refine o_alloc ze47 rfl (fun B41 => ?_)
        refine o_storeN (i := 0) (vs := [.int .i64 ((l[((Ref.crowdWho l)[i]).toNat]).key), .int .i64 ((l[((Ref.crowdWho l)[i]).toNat]).at_), .int .i64 ((l[((Ref.crowdWho l)[i]).toNat]).long)]) (cs' := [.int .i64 ((l[((Ref.crowdWho l)[i]).toNat]).key), .int .i64 ((l[((Ref.crowdWho l)[i]).toNat]).at_), .int .i64 ((l[((Ref.crowdWho l)[i]).toNat]).long)]) rfl rfl rfl sz47 rfl rfl rfl rfl ?_
        refine o_nil ?_
        refine q_then ?_
        refine c_seq ?_
        refine c_region ?_
        refine o_pure (p_move (v := .slice aends ends.length cends) rfl) rfl rfl rfl ?_
        refine o_pure (p_fieldAddr (B := B41) (j := 0) (j' := 1) rfl fo47_1 rfl) rfl rfl rfl ?_
        refine o_pure (p_load (i := 0) (v := .int .i64 ((l[((Ref.crowdWho l)[i]).toNat]).at_)) rfl rfl sh3 rfl) rfl rfl rfl ?_
        refine o_pure (p_fieldAddr (B := B41) (j := 0) (j' := 2) rfl fo47_2 rfl) rfl rfl rfl ?_
        refine o_pure (p_load (i := 0) (v := .int .i64 ((l[((Ref.crowdWho l)[i]).toNat]).long)) rfl rfl sh3 rfl) rfl rfl rfl ?_
        refine o_pure (p_add (p := (l[((Ref.crowdWho l)[i]).toNat]).at_) (q := (l[((Ref.crowdWho l)[i]).toNat]).long) rfl rfl) rfl rfl rfl ?_
        refine o_buildSlice (m := 1) (T := tInt) (L := [(IntKind.i64.wrap ((l[((Ref.crowdWho l)[i]).toNat]).at_ + (l[((Ref.crowdWho l)[i]).toNat]).long))]) (vs := [.int .i64 (IntKind.i64.wrap ((l[((Ref.crowdWho l)[i]).toNat]).at_ + (l[((Ref.crowdWho l)[i]).toNat]).long))]) rfl rfl rfl rfl Try.underlying38 sz3 (by decide) ze3 rfl (by decide) rfl (fun S42 a43 => ?_)
        refine o_append (i := 3) (L := ends) (M := [(IntKind.i64.wrap ((l[((Ref.crowdWho l)[i]).toNat]).at_ + (l[((Ref.crowdWho l)[i]).toNat]).long))]) (T := tInt) rfl rfl rfl (rd_own (i := 0) rfl) Try.underlying38 Try.underlying38 (by intro k h; cases h) el3 (by intro z; simp [tInt, one1]) (by decide) (by simp only [List.length_cons, List.length_nil]; omega) rfl (fun a45 c46 S47 => ?_)
        refine o_pure (p_assign (v := .slice a45 (ends ++ [(IntKind.i64.wrap ((l[((Ref.crowdWho l)[i]).toNat]).at_ + (l[((Ref.crowdWho l)[i]).toNat]).long))]).length c46) rfl) rfl rfl rfl ?_
        refine o_nil ?_
        refine q_then ?_
        refine c_seq ?_
        refine c_region ?_
        refine o_pure (p_move (v := .slice a14 (Ref.crowdWho l).length c15) rfl) rfl rfl rfl ?_
        refine o_pure (p_move (v := .int .i64 (i : Int)) rfl) rfl rfl rfl ?_
        refine o_pure (p_indexAddr (L := (Ref.crowdWho l)) (T := tInt) (i := (i : Int)) rfl rfl (rd_own (i := 4) rfl) Try.underlying38 sz3 (by omega) (by omega)) rfl rfl rfl ?_
        refine o_pure (p_loadE1 (i := i) (T := tInt) (L := (Ref.crowdWho l)) (v := .int .i64 ((Ref.crowdWho l)[i])) rfl (rd_own (i := 4) rfl) (by first | assumption | omega) sh3 rfl) rfl rfl rfl ?_
        refine o_pure (p_move (v := .int .i64 (i : Int)) rfl) rfl rfl rfl ?_
        refine o_pure (p_eq (p := (Ref.crowdWho l)[i]) (q := (i : Int)) rfl rfl) rfl rfl rfl ?_
        refine o_nil ?_
        refine q_then ?_
        refine c_cond (b := ((Ref.crowdWho l)[i] == (i : Int))) rfl (fun hc48 => ?_) (fun hc48 => ?_)
        · simp only [beq_iff_eq] at hc48
          refine c_seq ?_
          refine c_region ?_
          refine o_pure (p_move (v := .int .i64 loads) rfl) rfl rfl rfl ?_
          refine o_pure (p_addb (p := loads) (q := 1) rfl rfl (by omega)) rfl rfl rfl ?_
          refine o_pure (p_assign (v := .int .i64 (loads + 1)) rfl) rfl rfl rfl ?_
          refine o_nil ?_
          refine q_then ?_
          refine c_seq ?_
          refine c_region ?_
          refine o_pure (p_move (v := .int .i64 (Flight.check l)) rfl) rfl rfl rfl ?_
          refine o_pure (p_eq (p := (Flight.check l)) (q := 0) rfl rfl) rfl rfl rfl ?_
          refine o_pure (p_move (v := .bool ((Flight.check l) == 0)) rfl) rfl rfl rfl ?_
          refine o_and (p := 86) 5 (decide ((l[((Ref.crowdWho l)[i]).toNat]).at_ ≤ at_)) ?_ ?_ ?_
          · intro hb49 hk
            simp only [beq_iff_eq] at hb49
            refine o_unguard 81 rfl rfl ?_
            refine o_pure (p_fieldAddr (B := B41) (j := 0) (j' := 1) rfl fo47_1 rfl) rfl rfl rfl ?_
            refine o_unguard 81 rfl rfl ?_
            refine o_pure (p_load (i := 1) (v := .int .i64 ((l[((Ref.crowdWho l)[i]).toNat]).at_)) rfl rfl sh3 rfl) rfl rfl rfl ?_
            refine o_unguard 81 rfl rfl ?_
            refine o_pure (p_move (v := .int .i64 at_) rfl) rfl rfl rfl ?_
            refine o_unguard 81 rfl rfl ?_
            refine o_pure (p_le (p := (l[((Ref.crowdWho l)[i]).toNat]).at_) (q := at_) rfl rfl) rfl rfl rfl ?_
            refine o_pure (p_pick_true (u := .bool (decide ((l[((Ref.crowdWho l)[i]).toNat]).at_ ≤ at_))) rfl rfl) rfl rfl rfl ?_
            exact o_sub (Sub.cons rfl (Sub.skip rfl (Sub.skip rfl (Sub.skip rfl (Sub.skip rfl (Sub.skip rfl (Sub.skip rfl (Sub.refl _)))))))) hk
          · intro hb49 hk
            refine o_guard_no rfl 81 rfl rfl rfl rfl rfl ?_
            refine o_guard_no rfl 81 rfl rfl rfl rfl rfl ?_
            refine o_guard_no rfl 81 rfl rfl rfl rfl rfl ?_
            refine o_guard_no rfl 81 rfl rfl rfl rfl rfl ?_
            refine o_pure (p_pick_false (v := .bool false) rfl rfl) rfl rfl rfl ?_
            exact o_sub (Sub.cons rfl (Sub.skip rfl (Sub.skip rfl (Sub.skip rfl (Sub.skip rfl (Sub.skip rfl (Sub.skip rfl (Sub.refl _)))))))) hk
          refine o_pure (p_move (v := .bool (((Flight.check l) == 0) && decide ((l[((Ref.crowdWho l)[i]).toNat]).at_ ≤ at_))) rfl) rfl rfl rfl ?_
          refine o_and (p := 95) 8 (decide (at_ < (IntKind.i64.wrap ((l[((Ref.crowdWho l)[i]).toNat]).at_ + (l[((Ref.crowdWho l)[i]).toNat]).long)))) ?_ ?_ ?_
          · intro hb50 hk
            simp only [Bool.and_eq_true, beq_iff_eq, decide_eq_true_eq] at hb50
            refine o_unguard 87 rfl rfl ?_
            refine o_pure (p_move (v := .int .i64 at_) rfl) rfl rfl rfl ?_
            refine o_unguard 87 rfl rfl ?_
            refine o_pure (p_fieldAddr (B := B41) (j := 0) (j' := 1) rfl fo47_1 rfl) rfl rfl rfl ?_
            refine o_unguard 87 rfl rfl ?_
            refine o_pure (p_load (i := 1) (v := .int .i64 ((l[((Ref.crowdWho l)[i]).toNat]).at_)) rfl rfl sh3 rfl) rfl rfl rfl ?_
            refine o_unguard 87 rfl rfl ?_
            refine o_pure (p_fieldAddr (B := B41) (j := 0) (j' := 2) rfl fo47_2 rfl) rfl rfl rfl ?_
            refine o_unguard 87 rfl rfl ?_
            refine o_pure (p_load (i := 1) (v := .int .i64 ((l[((Ref.crowdWho l)[i]).toNat]).long)) rfl rfl sh3 rfl) rfl rfl rfl ?_
            refine o_unguard 87 rfl rfl ?_
            refine o_pure (p_add (p := (l[((Ref.crowdWho l)[i]).toNat]).at_) (q := (l[((Ref.crowdWho l)[i]).toNat]).long) rfl rfl) rfl rfl rfl ?_
            refine o_unguard 87 rfl rfl ?_
            refine o_pure (p_lt (p := at_) (q := (IntKind.i64.wrap ((l[((Ref.crowdWho l)[i]).toNat]).at_ + (l[((Ref.crowdWho l)[i]).toNat]).long))) rfl rfl) rfl rfl rfl ?_
            refine o_pure (p_pick_true (u := .bool (decide (at_ < (IntKind.i64.wrap ((l[((Ref.crowdWho l)[i]).toNat]).at_ + (l[((Ref.crowdWho l)[i]).toNat]).long))))) rfl rfl) rfl rfl rfl ?_
            exact o_sub (Sub.cons rfl (Sub.skip rfl (Sub.skip rfl (Sub.skip rfl (Sub.skip rfl (Sub.skip rfl (Sub.skip rfl (Sub.skip rfl (Sub.skip rfl (Sub.skip rfl (Sub.refl _))))))))))) hk
          · intro hb50 hk
            refine o_guard_no rfl 87 rfl rfl rfl rfl rfl ?_
            refine o_guard_no rfl 87 rfl rfl rfl rfl rfl ?_
            refine o_guard_no rfl 87 rfl rfl rfl rfl rfl ?_
            refine o_guard_no rfl 87 rfl rfl rfl rfl rfl ?_
            refine o_guard_no rfl 87 rfl rfl rfl rfl rfl ?_
            refine o_guard_no rfl 87 rfl rfl rfl rfl rfl ?_
            refine o_guard_no rfl 87 rfl rfl rfl rfl rfl ?_
            refine o_pure (p_pick_false (v := .bool false) rfl rfl) rfl rfl rfl ?_
            exact o_sub (Sub.cons rfl (Sub.skip rfl (Sub.skip rfl (Sub.skip rfl (Sub.skip rfl (Sub.skip rfl (Sub.skip rfl (Sub.skip rfl (Sub.skip rfl (Sub.skip rfl (Sub.refl _))))))))))) hk
          refine o_nil ?_
          refine q_then ?_
          refine c_cond (b := ((((Flight.check l) == 0) && decide ((l[((Ref.crowdWho l)[i]).toNat]).at_ ≤ at_)) && decide (at_ < (IntKind.i64.wrap ((l[((Ref.crowdWho l)[i]).toNat]).at_ + (l[((Ref.crowdWho l)[i]).toNat]).long))))) rfl (fun hc51 => ?_) (fun hc51 => ?_)
          · simp only [Bool.and_eq_true, beq_iff_eq, decide_eq_true_eq] at hc51
            refine c_region ?_
            refine o_pure (p_move (v := .slice abusy busy.length cbusy) rfl) rfl rfl rfl ?_
            refine o_pure (p_move (v := .int .i64 (i : Int)) rfl) rfl rfl rfl ?_
            refine o_buildSlice (m := 1) (T := tInt) (L := [(i : Int)]) (vs := [.int .i64 (i : Int)]) rfl rfl rfl rfl Try.underlying38 sz3 (by decide) ze3 rfl (by decide) rfl (fun S52 a53 => ?_)
            refine o_append (i := 3) (L := busy) (M := [(i : Int)]) (T := tInt) rfl rfl rfl (rd_own (i := 0) rfl) Try.underlying38 Try.underlying38 (by intro k h; cases h) el3 (by intro z; simp [tInt, one1]) (by decide) (by simp only [List.length_cons, List.length_nil]; omega) rfl (fun a55 c56 S57 => ?_)
            refine o_pure (p_assign (v := .slice a55 (busy ++ [(i : Int)]).length c56) rfl) rfl rfl rfl ?_
            refine o_nil ?_
            refine q_block_normal (q_then ?_)
            refine c_region ?_
            refine o_pure (p_move (v := .int .i64 (i : Int)) rfl) rfl rfl rfl ?_
            refine o_pure (p_addb (p := (i : Int)) (q := 1) rfl rfl (by omega)) rfl rfl rfl ?_
            refine o_pure (p_assign (v := .int .i64 ((i : Int) + 1)) rfl) rfl rfl rfl ?_
            refine o_nil ?_
            refine q_round hK39 ((ends ++ [(IntKind.i64.wrap ((l[((Ref.crowdWho l)[i]).toNat]).at_ + (l[((Ref.crowdWho l)[i]).toNat]).long))]), a45, c46, S47, (busy ++ [(i : Int)]), a55, c56, S57, (loads + 1), i + 1) ?_ ?_ ?_ ?_
            · clear hK39
              dsimp only
              have hd1 : (Flight.plan l).drop i = (Flight.plan l)[i] :: (Flight.plan l).drop (i + 1) := List.drop_eq_getElem_cons (by omega)
              have hd2 : l.drop i = l[i] :: l.drop (i + 1) := List.drop_eq_getElem_cons (by omega)
              rw [hd1, Flight.countOwn] at hl2
              rw [hd1, hd2, Flight.activeGo] at hb1
              have hx : ((Ref.crowdWho l)[i]).toNat = j := by rw [hj1]; exact Int.toNat_natCast j
              simp only [hx] at *
              have hpi : i < (Flight.plan l).length := by omega
              have hii : ((i + 1 : Nat) : Int) = (i : Int) + 1 := by omega
              rw [hii]
              refine ⟨by omega, ?_, ?_, ?_, ?_, ?_⟩
              · rw [List.take_succ_eq_append_getElem hpi, List.map_append, ← hends, List.map_singleton, hj4]
              · split at hl2 <;> first | (exfalso; omega) | (refine ⟨by omega, by omega, by omega⟩)
              · first | omega | (rw [List.length_append, List.length_singleton]; omega)
              · intro ha0; have hb := hb1 ha0; have hli : j = i → l[j].at_ = l[i].at_ := (fun e => by subst e; rfl); by_cases hji : j = i
                all_goals (first | have hlj := hli hji | skip)
                all_goals split at hb <;> first | (exfalso; simp only [Flight.activeErr] at ha0; rw [if_pos hch, if_pos (by omega)] at ha0; omega) | (exfalso; omega) | simpa using hb | exact hb
              · first | exact hb2 | (intro ha0; exfalso; apply ha0; simp only [Flight.activeErr]; rw [if_pos hch, if_neg (by omega)])
            · (try dsimp only); omega
            · exact Sub.cons rfl (Sub.cons rfl (Sub.cons rfl (Sub.cons rfl (Sub.cons rfl (Sub.cons rfl (Sub.cons rfl (Sub.cons rfl (Sub.cons rfl (Sub.cons rfl (Sub.cons rfl (Sub.cons rfl (Sub.cons rfl (Sub.cons rfl (Sub.cons rfl (Sub.cons rfl (Sub.nil _))))))))))))))))
            · exact fun _ hw => HeapIs.drop hw (List.Sublist.cons _ (List.Sublist.cons _ (List.Sublist.cons _ (List.Sublist.refl _))))
          · simp only [Bool.and_eq_false_iff, beq_eq_false_iff_ne, ne_eq, decide_eq_false_iff_not, Int.not_le, Int.not_lt] at hc51
            refine c_skip ?_
            refine q_block_normal (q_then ?_)
            refine c_region ?_
            refine o_pure (p_move (v := .int .i64 (i : Int)) rfl) rfl rfl rfl ?_
            refine o_pure (p_addb (p := (i : Int)) (q := 1) rfl rfl (by omega)) rfl rfl rfl ?_
            refine o_pure (p_assign (v := .int .i64 ((i : Int) + 1)) rfl) rfl rfl rfl ?_
            refine o_nil ?_
            refine q_round hK39 ((ends ++ [(IntKind.i64.wrap ((l[((Ref.crowdWho l)[i]).toNat]).at_ + (l[((Ref.crowdWho l)[i]).toNat]).long))]), a45, c46, S47, busy, abusy, cbusy, Sbusy, (loads + 1), i + 1) ?_ ?_ ?_ ?_
            · clear hK39
              dsimp only
              have hd1 : (Flight.plan l).drop i = (Flight.plan l)[i] :: (Flight.plan l).drop (i + 1) := List.drop_eq_getElem_cons (by omega)
              have hd2 : l.drop i = l[i] :: l.drop (i + 1) := List.drop_eq_getElem_cons (by omega)
              rw [hd1, Flight.countOwn] at hl2
              rw [hd1, hd2, Flight.activeGo] at hb1
              have hx : ((Ref.crowdWho l)[i]).toNat = j := by rw [hj1]; exact Int.toNat_natCast j
              simp only [hx] at *
              have hpi : i < (Flight.plan l).length := by omega
              have hii : ((i + 1 : Nat) : Int) = (i : Int) + 1 := by omega
              rw [hii]
              refine ⟨by omega, ?_, ?_, ?_, ?_, ?_⟩
              · rw [List.take_succ_eq_append_getElem hpi, List.map_append, ← hends, List.map_singleton, hj4]
              · split at hl2 <;> first | (exfalso; omega) | (refine ⟨by omega, by omega, by omega⟩)
              · first | omega | (rw [List.length_append, List.length_singleton]; omega)
              · intro ha0; have hb := hb1 ha0; have hli : j = i → l[j].at_ = l[i].at_ := (fun e => by subst e; rfl); by_cases hji : j = i
                all_goals (first | have hlj := hli hji | skip)
                all_goals split at hb <;> first | (exfalso; simp only [Flight.activeErr] at ha0; rw [if_pos hch, if_pos (by omega)] at ha0; omega) | (exfalso; omega) | simpa using hb | exact hb
              · first | exact hb2 | (intro ha0; exfalso; apply ha0; simp only [Flight.activeErr]; rw [if_pos hch, if_neg (by omega)])
            · (try dsimp only); omega
            · exact Sub.cons rfl (Sub.cons rfl (Sub.cons rfl (Sub.cons rfl (Sub.cons rfl (Sub.cons rfl (Sub.cons rfl (Sub.cons rfl (Sub.cons rfl (Sub.cons rfl (Sub.cons rfl (Sub.cons rfl (Sub.cons rfl (Sub.cons rfl (Sub.cons rfl (Sub.cons rfl (Sub.nil _))))))))))))))))
            · exact fun _ hw => HeapIs.drop hw (List.Sublist.cons _ (List.Sublist.cons _ (List.Sublist.refl _)))
        · simp only [beq_eq_false_iff_ne, ne_eq] at hc48
          refine c_skip ?_
          refine q_block_normal (q_then ?_)
          refine c_region ?_
          refine o_pure (p_move (v := .int .i64 (i : Int)) rfl) rfl rfl rfl ?_
          refine o_pure (p_addb (p := (i : Int)) (q := 1) rfl rfl (by omega)) rfl rfl rfl ?_
          refine o_pure (p_assign (v := .int .i64 ((i : Int) + 1)) rfl) rfl rfl rfl ?_
          refine o_nil ?_
          refine q_round hK39 ((ends ++ [(IntKind.i64.wrap ((l[((Ref.crowdWho l)[i]).toNat]).at_ + (l[((Ref.crowdWho l)[i]).toNat]).long))]), a45, c46, S47, busy, abusy, cbusy, Sbusy, loads, i + 1) ?_ ?_ ?_ ?_
          · clear hK39
            dsimp only
            have hd1 : (Flight.plan l).drop i = (Flight.plan l)[i] :: (Flight.plan l).drop (i + 1) := List.drop_eq_getElem_cons (by omega)
            have hd2 : l.drop i = l[i] :: l.drop (i + 1) := List.drop_eq_getElem_cons (by omega)
            rw [hd1, Flight.countOwn] at hl2
            rw [hd1, hd2, Flight.activeGo] at hb1
            have hx : ((Ref.crowdWho l)[i]).toNat = j := by rw [hj1]; exact Int.toNat_natCast j
            simp only [hx] at *
            have hpi : i < (Flight.plan l).length := by omega
            have hii : ((i + 1 : Nat) : Int) = (i : Int) + 1 := by omega
            rw [hii]
            refine ⟨by omega, ?_, ?_, ?_, ?_, ?_⟩
            · rw [List.take_succ_eq_append_getElem hpi, List.map_append, ← hends, List.map_singleton, hj4]
            · split at hl2 <;> first | (exfalso; omega) | (refine ⟨by omega, by omega, by omega⟩)
            · first | omega | (rw [List.length_append, List.length_singleton]; omega)
            · intro ha0; have hb := hb1 ha0; have hli : j = i → l[j].at_ = l[i].at_ := (fun e => by subst e; rfl); by_cases hji : j = i
              all_goals (first | have hlj := hli hji | skip)
              all_goals split at hb <;> first | (exfalso; simp only [Flight.activeErr] at ha0; rw [if_pos hch, if_pos (by omega)] at ha0; omega) | (exfalso; omega) | simpa using hb | exact hb
            · first | exact hb2 | (intro ha0; exfalso; apply ha0; simp only [Flight.activeErr]; rw [if_pos hch, if_neg (by omega)])
          · (try dsimp only); omega
          · exact Sub.cons rfl (Sub.cons rfl (Sub.cons rfl (Sub.cons rfl (Sub.cons rfl (Sub.cons rfl (Sub.cons rfl (Sub.cons rfl (Sub.cons rfl (Sub.cons rfl (Sub.cons rfl (Sub.cons rfl (Sub.cons rfl (Sub.cons rfl (Sub.cons rfl (Sub.cons rfl (Sub.nil _))))))))))))))))
          · exact fun _ hw => HeapIs.drop hw (List.Sublist.cons _ (List.Sublist.cons _ (List.Sublist.refl _)))
      · simp only [decide_eq_false_iff_not, Int.not_lt] at hc40
        refine c_exit ?_
        refine q_then_exit (q_then_exit (q_block_exit (q_then ?_)))
        refine c_seq ?_
        refine c_region ?_
        refine o_call0 (v := .bool true) rfl (crowdBegun_ok ) hf29 (fun _ _ => trivial) rfl ?_
        refine o_pure (p_move (v := .bool true) rfl) rfl rfl rfl ?_
        refine o_unguard 101 rfl rfl ?_
        refine o_pure (p_move (v := .slice al l.length cl) rfl) rfl rfl rfl ?_
        refine o_unguard 101 rfl rfl ?_
        refine o_call0 (v := .int .i64 (Flight.check l)) rfl (check_ok l al cl) hf30 (fun w hw => (rd_base (i := 5) rfl hl) w hw) rfl ?_
        refine o_unguard 101 rfl rfl ?_
        refine o_pure (p_move (v := .int .i64 (Flight.check l)) rfl) rfl rfl rfl ?_
        refine o_unguard 101 rfl rfl ?_
        refine o_pure (p_eq (p := (Flight.check l)) (q := (Flight.check l)) rfl rfl) rfl rfl rfl ?_
        refine o_pure (p_pick_true (u := .bool ((Flight.check l) == (Flight.check l))) rfl rfl) rfl rfl rfl ?_
        refine o_pure (p_move (v := .bool ((Flight.check l) == (Flight.check l))) rfl) rfl rfl rfl ?_
        refine o_and (p := 111) 4 (Ref.sameInts (Flight.who l) (Ref.crowdWho l)) ?_ ?_ ?_
        · intro hb58 hk
          simp only [beq_iff_eq] at hb58
          refine o_unguard 107 rfl rfl ?_
          refine o_pure (p_move (v := .slice a3 (Flight.who l).length c4) rfl) rfl rfl rfl ?_
          refine o_unguard 107 rfl rfl ?_
          refine o_pure (p_move (v := .slice a14 (Ref.crowdWho l).length c15) rfl) rfl rfl rfl ?_
          refine o_unguard 107 rfl rfl ?_
          refine o_call0 (v := .bool (Ref.sameInts (Flight.who l) (Ref.crowdWho l))) rfl (sameInts_ok (Flight.who l) a3 c4 (Ref.crowdWho l) a14 c15) hf31 (fun w hw => ⟨(rd_ent (i := 4) rfl (fun w h => h.1)) w hw, (rd_own (i := 2) rfl) w hw⟩) rfl ?_
          refine o_pure (p_pick_true (u := .bool (Ref.sameInts (Flight.who l) (Ref.crowdWho l))) rfl rfl) rfl rfl rfl ?_
          exact o_sub (Sub.cons rfl (Sub.skip rfl (Sub.skip rfl (Sub.skip rfl (Sub.skip rfl (Sub.skip rfl (Sub.refl _))))))) hk
        · intro hb58 hk
          refine o_guard_no rfl 107 rfl rfl rfl rfl rfl ?_
          refine o_guard_no rfl 107 rfl rfl rfl rfl rfl ?_
          refine o_guard_no rfl 107 rfl rfl rfl rfl rfl ?_
          refine o_pure (p_pick_false (v := .bool false) rfl rfl) rfl rfl rfl ?_
          exact o_sub (Sub.cons rfl (Sub.skip rfl (Sub.skip rfl (Sub.skip rfl (Sub.skip rfl (Sub.skip rfl (Sub.refl _))))))) hk
        refine o_pure (p_move (v := .bool (((Flight.check l) == (Flight.check l)) && (Ref.sameInts (Flight.who l) (Ref.crowdWho l)))) rfl) rfl rfl rfl ?_
        refine o_and (p := 116) 4 (Ref.sameInts (Flight.when_ l) ends) ?_ ?_ ?_
        · intro hb59 hk
          simp only [Bool.and_eq_true, beq_iff_eq] at hb59
          refine o_unguard 112 rfl rfl ?_
          refine o_pure (p_move (v := .slice a5 (Flight.when_ l).length c6) rfl) rfl rfl rfl ?_
          refine o_unguard 112 rfl rfl ?_
          refine o_pure (p_move (v := .slice aends ends.length cends) rfl) rfl rfl rfl ?_
          refine o_unguard 112 rfl rfl ?_
          refine o_call0 (v := .bool (Ref.sameInts (Flight.when_ l) ends)) rfl (sameInts_ok (Flight.when_ l) a5 c6 ends aends cends) hf31 (fun w hw => ⟨(rd_ent (i := 4) rfl (fun w h => h.2)) w hw, (rd_own (i := 1) rfl) w hw⟩) rfl ?_
          refine o_pure (p_pick_true (u := .bool (Ref.sameInts (Flight.when_ l) ends)) rfl rfl) rfl rfl rfl ?_
          exact o_sub (Sub.cons rfl (Sub.skip rfl (Sub.skip rfl (Sub.skip rfl (Sub.skip rfl (Sub.skip rfl (Sub.refl _))))))) hk
        · intro hb59 hk
          refine o_guard_no rfl 112 rfl rfl rfl rfl rfl ?_
          refine o_guard_no rfl 112 rfl rfl rfl rfl rfl ?_
          refine o_guard_no rfl 112 rfl rfl rfl rfl rfl ?_
          refine o_pure (p_pick_false (v := .bool false) rfl rfl) rfl rfl rfl ?_
          exact o_sub (Sub.cons rfl (Sub.skip rfl (Sub.skip rfl (Sub.skip rfl (Sub.skip rfl (Sub.skip rfl (Sub.refl _))))))) hk
        refine o_pure (p_move (v := .bool ((((Flight.check l) == (Flight.check l)) && (Ref.sameInts (Flight.who l) (Ref.crowdWho l))) && (Ref.sameInts (Flight.when_ l) ends))) rfl) rfl rfl rfl ?_
        refine o_and (p := 121) 4 ((Flight.check l) == (Flight.check l)) ?_ ?_ ?_
        · intro hb60 hk
          simp only [Bool.and_eq_true, beq_iff_eq] at hb60
          refine o_unguard 117 rfl rfl ?_
          refine o_pure (p_move (v := .int .i64 (Flight.check l)) rfl) rfl rfl rfl ?_
          refine o_unguard 117 rfl rfl ?_
          refine o_pure (p_move (v := .int .i64 (Flight.check l)) rfl) rfl rfl rfl ?_
          refine o_unguard 117 rfl rfl ?_
          refine o_pure (p_eq (p := (Flight.check l)) (q := (Flight.check l)) rfl rfl) rfl rfl rfl ?_
          refine o_pure (p_pick_true (u := .bool ((Flight.check l) == (Flight.check l))) rfl rfl) rfl rfl rfl ?_
          exact o_sub (Sub.cons rfl (Sub.skip rfl (Sub.skip rfl (Sub.skip rfl (Sub.skip rfl (Sub.skip rfl (Sub.refl _))))))) hk
        · intro hb60 hk
          refine o_guard_no rfl 117 rfl rfl rfl rfl rfl ?_
          refine o_guard_no rfl 117 rfl rfl rfl rfl rfl ?_
          refine o_guard_no rfl 117 rfl rfl rfl rfl rfl ?_
          refine o_pure (p_pick_false (v := .bool false) rfl rfl) rfl rfl rfl ?_
          exact o_sub (Sub.cons rfl (Sub.skip rfl (Sub.skip rfl (Sub.skip rfl (Sub.skip rfl (Sub.skip rfl (Sub.refl _))))))) hk
        refine o_pure (p_move (v := .bool (((((Flight.check l) == (Flight.check l)) && (Ref.sameInts (Flight.who l) (Ref.crowdWho l))) && (Ref.sameInts (Flight.when_ l) ends)) && ((Flight.check l) == (Flight.check l)))) rfl) rfl rfl rfl ?_
        refine o_and (p := 126) 4 ((Flight.loads l) == loads) ?_ ?_ ?_
        · intro hb61 hk
          simp only [Bool.and_eq_true, beq_iff_eq] at hb61
          refine o_unguard 122 rfl rfl ?_
          refine o_pure (p_move (v := .int .i64 (Flight.loads l)) rfl) rfl rfl rfl ?_
          refine o_unguard 122 rfl rfl ?_
          refine o_pure (p_move (v := .int .i64 loads) rfl) rfl rfl rfl ?_
          refine o_unguard 122 rfl rfl ?_
          refine o_pure (p_eq (p := (Flight.loads l)) (q := loads) rfl rfl) rfl rfl rfl ?_
          refine o_pure (p_pick_true (u := .bool ((Flight.loads l) == loads)) rfl rfl) rfl rfl rfl ?_
          exact o_sub (Sub.cons rfl (Sub.skip rfl (Sub.skip rfl (Sub.skip rfl (Sub.skip rfl (Sub.skip rfl (Sub.refl _))))))) hk
        · intro hb61 hk
          refine o_guard_no rfl 122 rfl rfl rfl rfl rfl ?_
          refine o_guard_no rfl 122 rfl rfl rfl rfl rfl ?_
          refine o_guard_no rfl 122 rfl rfl rfl rfl rfl ?_
          refine o_pure (p_pick_false (v := .bool false) rfl rfl) rfl rfl rfl ?_
          exact o_sub (Sub.cons rfl (Sub.skip rfl (Sub.skip rfl (Sub.skip rfl (Sub.skip rfl (Sub.skip rfl (Sub.refl _))))))) hk
        refine o_pure (p_move (v := .bool ((((((Flight.check l) == (Flight.check l)) && (Ref.sameInts (Flight.who l) (Ref.crowdWho l))) && (Ref.sameInts (Flight.when_ l) ends)) && ((Flight.check l) == (Flight.check l))) && ((Flight.loads l) == loads))) rfl) rfl rfl rfl ?_
        refine o_and (p := 131) 4 ((Flight.check l) == (Flight.check l)) ?_ ?_ ?_
        · intro hb62 hk
          simp only [Bool.and_eq_true, beq_iff_eq] at hb62
          refine o_unguard 127 rfl rfl ?_
          refine o_pure (p_move (v := .int .i64 (Flight.check l)) rfl) rfl rfl rfl ?_
          refine o_unguard 127 rfl rfl ?_
          refine o_pure (p_move (v := .int .i64 (Flight.check l)) rfl) rfl rfl rfl ?_
          refine o_unguard 127 rfl rfl ?_
          refine o_pure (p_eq (p := (Flight.check l)) (q := (Flight.check l)) rfl rfl) rfl rfl rfl ?_
          refine o_pure (p_pick_true (u := .bool ((Flight.check l) == (Flight.check l))) rfl rfl) rfl rfl rfl ?_
          exact o_sub (Sub.cons rfl (Sub.skip rfl (Sub.skip rfl (Sub.skip rfl (Sub.skip rfl (Sub.skip rfl (Sub.refl _))))))) hk
        · intro hb62 hk
          refine o_guard_no rfl 127 rfl rfl rfl rfl rfl ?_
          refine o_guard_no rfl 127 rfl rfl rfl rfl rfl ?_
          refine o_guard_no rfl 127 rfl rfl rfl rfl rfl ?_
          refine o_pure (p_pick_false (v := .bool false) rfl rfl) rfl rfl rfl ?_
          exact o_sub (Sub.cons rfl (Sub.skip rfl (Sub.skip rfl (Sub.skip rfl (Sub.skip rfl (Sub.skip rfl (Sub.refl _))))))) hk
        refine o_pure (p_move (v := .bool (((((((Flight.check l) == (Flight.check l)) && (Ref.sameInts (Flight.who l) (Ref.crowdWho l))) && (Ref.sameInts (Flight.when_ l) ends)) && ((Flight.check l) == (Flight.check l))) && ((Flight.loads l) == loads)) && ((Flight.check l) == (Flight.check l)))) rfl) rfl rfl rfl ?_
        refine o_and (p := 136) 4 (Ref.sameInts (Flight.active l at_) busy) ?_ ?_ ?_
        · intro hb63 hk
          simp only [Bool.and_eq_true, beq_iff_eq] at hb63
          refine o_unguard 132 rfl rfl ?_
          refine o_pure (p_move (v := .slice a9 (Flight.active l at_).length c10) rfl) rfl rfl rfl ?_
          refine o_unguard 132 rfl rfl ?_
          refine o_pure (p_move (v := .slice abusy busy.length cbusy) rfl) rfl rfl rfl ?_
          refine o_unguard 132 rfl rfl ?_
          refine o_call0 (v := .bool (Ref.sameInts (Flight.active l at_) busy)) rfl (sameInts_ok (Flight.active l at_) a9 c10 busy abusy cbusy) hf31 (fun w hw => ⟨(rd_own (i := 3) rfl) w hw, (rd_own (i := 0) rfl) w hw⟩) rfl ?_
          refine o_pure (p_pick_true (u := .bool (Ref.sameInts (Flight.active l at_) busy)) rfl rfl) rfl rfl rfl ?_
          exact o_sub (Sub.cons rfl (Sub.skip rfl (Sub.skip rfl (Sub.skip rfl (Sub.skip rfl (Sub.skip rfl (Sub.refl _))))))) hk
        · intro hb63 hk
          refine o_guard_no rfl 132 rfl rfl rfl rfl rfl ?_
          refine o_guard_no rfl 132 rfl rfl rfl rfl rfl ?_
          refine o_guard_no rfl 132 rfl rfl rfl rfl rfl ?_
          refine o_pure (p_pick_false (v := .bool false) rfl rfl) rfl rfl rfl ?_
          exact o_sub (Sub.cons rfl (Sub.skip rfl (Sub.skip rfl (Sub.skip rfl (Sub.skip rfl (Sub.skip rfl (Sub.refl _))))))) hk
        refine o_pure (p_move (v := .bool ((((((((Flight.check l) == (Flight.check l)) && (Ref.sameInts (Flight.who l) (Ref.crowdWho l))) && (Ref.sameInts (Flight.when_ l) ends)) && ((Flight.check l) == (Flight.check l))) && ((Flight.loads l) == loads)) && ((Flight.check l) == (Flight.check l))) && (Ref.sameInts (Flight.active l at_) busy))) rfl) rfl rfl rfl ?_
        refine o_and (p := 141) 4 ((Flight.activeErr l at_) == (Flight.check l)) ?_ ?_ ?_
        · intro hb64 hk
          simp only [Bool.and_eq_true, beq_iff_eq] at hb64
          refine o_unguard 137 rfl rfl ?_
          refine o_pure (p_move (v := .int .i64 (Flight.activeErr l at_)) rfl) rfl rfl rfl ?_
          refine o_unguard 137 rfl rfl ?_
          refine o_pure (p_move (v := .int .i64 (Flight.check l)) rfl) rfl rfl rfl ?_
          refine o_unguard 137 rfl rfl ?_
          refine o_pure (p_eq (p := (Flight.activeErr l at_)) (q := (Flight.check l)) rfl rfl) rfl rfl rfl ?_
          refine o_pure (p_pick_true (u := .bool ((Flight.activeErr l at_) == (Flight.check l))) rfl rfl) rfl rfl rfl ?_
          exact o_sub (Sub.cons rfl (Sub.skip rfl (Sub.skip rfl (Sub.skip rfl (Sub.skip rfl (Sub.skip rfl (Sub.refl _))))))) hk
        · intro hb64 hk
          refine o_guard_no rfl 137 rfl rfl rfl rfl rfl ?_
          refine o_guard_no rfl 137 rfl rfl rfl rfl rfl ?_
          refine o_guard_no rfl 137 rfl rfl rfl rfl rfl ?_
          refine o_pure (p_pick_false (v := .bool false) rfl rfl) rfl rfl rfl ?_
          exact o_sub (Sub.cons rfl (Sub.skip rfl (Sub.skip rfl (Sub.skip rfl (Sub.skip rfl (Sub.skip rfl (Sub.refl _))))))) hk
        refine o_pure (p_assign (v := .bool (((((((((Flight.check l) == (Flight.check l)) && (Ref.sameInts (Flight.who l) (Ref.crowdWho l))) && (Ref.sameInts (Flight.when_ l) ends)) && ((Flight.check l) == (Flight.check l))) && ((Flight.loads l) == loads)) && ((Flight.check l) == (Flight.check l))) && (Ref.sameInts (Flight.active l at_) busy)) && ((Flight.activeErr l at_) == (Flight.check l)))) rfl) rfl rfl rfl ?_
        refine o_nil ?_
        refine q_then ?_
        refine c_ret ?_
        refine q_end0 (v := .bool (((((((((Flight.check l) == (Flight.check l)) && (Ref.sameInts (Flight.who l) (Ref.crowdWho l))) && (Ref.sameInts (Flight.when_ l) ends)) && ((Flight.check l) == (Flight.check l))) && ((Flight.loads l) == loads)) && ((Flight.check l) == (Flight.check l))) && (Ref.sameInts (Flight.active l at_) busy)) && ((Flight.activeErr l at_) == (Flight.check l)))) (rt1 rfl (r_tmp rfl)) (i := 5) rfl ?_
        congr 1
        by_cases hch : Flight.check l = 0
        rotate_left
        · first | exact absurd (by assumption) hch | simp [Flight.who, Flight.when_, Flight.loads, Flight.active, Flight.activeErr, Ref.sameInts, hch]
        · first
          | exact absurd hch (by assumption)
          | have hwho := Flight.who_eq hch
            have hpl := Flight.plan_length l
            obtain rfl : i = l.length := by omega
            have hda : List.drop l.length (Flight.plan l) = [] := List.drop_of_length_le (by omega)
            have hta : List.take l.length (Flight.plan l) = Flight.plan l := List.take_of_length_le (by omega)
            rw [hda] at hl2 hb1
            rw [hta] at hends
            have e1 : Flight.who l = Ref.crowdWho l := by unfold Flight.who; rw [if_pos hch]; exact hwho
            have e2 : Flight.when_ l = ends := by unfold Flight.when_; rw [if_pos hch, hends]
            have e3 : Flight.loads l = loads := by unfold Flight.loads; rw [if_pos hch, ← hl2]; simp [Flight.countOwn]
            have e4 : Flight.active l at_ = busy := by
              unfold Flight.active; split
              · rename_i ha; rw [← hb1 ha]; simp [Flight.activeGo]
              · rename_i ha; exact (hb2 ha).symm
            have e5 : Flight.activeErr l at_ = if at_ < 0 ∨ 1099511627776 < at_ then 3 else 0 := by unfold Flight.activeErr; rw [if_pos hch]
            rw [e1, e2, e3, e4, e5]
            first | rw [if_pos (by omega)] | rw [if_neg (by omega)]
            simp [Ref.sameInts, hch]
  · simp only [beq_eq_false_iff_ne, ne_eq] at hc11
    refine c_skip ?_
    refine q_then ?_
    refine c_seq ?_
    refine c_region ?_
    refine o_call0 (v := .bool true) rfl (crowdBegun_ok ) hf29 (fun _ _ => trivial) rfl ?_
    refine o_pure (p_move (v := .bool true) rfl) rfl rfl rfl ?_
    refine o_unguard 101 rfl rfl ?_
    refine o_pure (p_move (v := .slice al l.length cl) rfl) rfl rfl rfl ?_
    refine o_unguard 101 rfl rfl ?_
    refine o_call0 (v := .int .i64 (Flight.check l)) rfl (check_ok l al cl) hf30 (fun w hw => (rd_base (i := 2) rfl hl) w hw) rfl ?_
    refine o_unguard 101 rfl rfl ?_
    refine o_pure (p_move (v := .int .i64 (Flight.check l)) rfl) rfl rfl rfl ?_
    refine o_unguard 101 rfl rfl ?_
    refine o_pure (p_eq (p := (Flight.check l)) (q := (Flight.check l)) rfl rfl) rfl rfl rfl ?_
    refine o_pure (p_pick_true (u := .bool ((Flight.check l) == (Flight.check l))) rfl rfl) rfl rfl rfl ?_
    refine o_pure (p_move (v := .bool ((Flight.check l) == (Flight.check l))) rfl) rfl rfl rfl ?_
    refine o_and (p := 111) 4 (Ref.sameInts (Flight.who l) []) ?_ ?_ ?_
    · intro hb65 hk
      simp only [beq_iff_eq] at hb65
      refine o_unguard 107 rfl rfl ?_
      refine o_pure (p_move (v := .slice a3 (Flight.who l).length c4) rfl) rfl rfl rfl ?_
      refine o_unguard 107 rfl rfl ?_
      refine o_pure (p_move (v := .slice none 0 0) rfl) rfl rfl rfl ?_
      refine o_unguard 107 rfl rfl ?_
      refine o_call0 (v := .bool (Ref.sameInts (Flight.who l) [])) rfl (sameInts_ok (Flight.who l) a3 c4 [] none 0) hf31 (fun w hw => ⟨(rd_ent (i := 1) rfl (fun w h => h.1)) w hw, rd_nil w hw⟩) rfl ?_
      refine o_pure (p_pick_true (u := .bool (Ref.sameInts (Flight.who l) [])) rfl rfl) rfl rfl rfl ?_
      exact o_sub (Sub.cons rfl (Sub.skip rfl (Sub.skip rfl (Sub.skip rfl (Sub.skip rfl (Sub.skip rfl (Sub.refl _))))))) hk
    · intro hb65 hk
      refine o_guard_no rfl 107 rfl rfl rfl rfl rfl ?_
      refine o_guard_no rfl 107 rfl rfl rfl rfl rfl ?_
      refine o_guard_no rfl 107 rfl rfl rfl rfl rfl ?_
      refine o_pure (p_pick_false (v := .bool false) rfl rfl) rfl rfl rfl ?_
      exact o_sub (Sub.cons rfl (Sub.skip rfl (Sub.skip rfl (Sub.skip rfl (Sub.skip rfl (Sub.skip rfl (Sub.refl _))))))) hk
    refine o_pure (p_move (v := .bool (((Flight.check l) == (Flight.check l)) && (Ref.sameInts (Flight.who l) []))) rfl) rfl rfl rfl ?_
    refine o_and (p := 116) 4 (Ref.sameInts (Flight.when_ l) []) ?_ ?_ ?_
    · intro hb66 hk
      simp only [Bool.and_eq_true, beq_iff_eq] at hb66
      refine o_unguard 112 rfl rfl ?_
      refine o_pure (p_move (v := .slice a5 (Flight.when_ l).length c6) rfl) rfl rfl rfl ?_
      refine o_unguard 112 rfl rfl ?_
      refine o_pure (p_move (v := .slice none 0 0) rfl) rfl rfl rfl ?_
      refine o_unguard 112 rfl rfl ?_
      refine o_call0 (v := .bool (Ref.sameInts (Flight.when_ l) [])) rfl (sameInts_ok (Flight.when_ l) a5 c6 [] none 0) hf31 (fun w hw => ⟨(rd_ent (i := 1) rfl (fun w h => h.2)) w hw, rd_nil w hw⟩) rfl ?_
      refine o_pure (p_pick_true (u := .bool (Ref.sameInts (Flight.when_ l) [])) rfl rfl) rfl rfl rfl ?_
      exact o_sub (Sub.cons rfl (Sub.skip rfl (Sub.skip rfl (Sub.skip rfl (Sub.skip rfl (Sub.skip rfl (Sub.refl _))))))) hk
    · intro hb66 hk
      refine o_guard_no rfl 112 rfl rfl rfl rfl rfl ?_
      refine o_guard_no rfl 112 rfl rfl rfl rfl rfl ?_
      refine o_guard_no rfl 112 rfl rfl rfl rfl rfl ?_
      refine o_pure (p_pick_false (v := .bool false) rfl rfl) rfl rfl rfl ?_
      exact o_sub (Sub.cons rfl (Sub.skip rfl (Sub.skip rfl (Sub.skip rfl (Sub.skip rfl (Sub.skip rfl (Sub.refl _))))))) hk
    refine o_pure (p_move (v := .bool ((((Flight.check l) == (Flight.check l)) && (Ref.sameInts (Flight.who l) [])) && (Ref.sameInts (Flight.when_ l) []))) rfl) rfl rfl rfl ?_
    refine o_and (p := 121) 4 ((Flight.check l) == (Flight.check l)) ?_ ?_ ?_
    · intro hb67 hk
      simp only [Bool.and_eq_true, beq_iff_eq] at hb67
      refine o_unguard 117 rfl rfl ?_
      refine o_pure (p_move (v := .int .i64 (Flight.check l)) rfl) rfl rfl rfl ?_
      refine o_unguard 117 rfl rfl ?_
      refine o_pure (p_move (v := .int .i64 (Flight.check l)) rfl) rfl rfl rfl ?_
      refine o_unguard 117 rfl rfl ?_
      refine o_pure (p_eq (p := (Flight.check l)) (q := (Flight.check l)) rfl rfl) rfl rfl rfl ?_
      refine o_pure (p_pick_true (u := .bool ((Flight.check l) == (Flight.check l))) rfl rfl) rfl rfl rfl ?_
      exact o_sub (Sub.cons rfl (Sub.skip rfl (Sub.skip rfl (Sub.skip rfl (Sub.skip rfl (Sub.skip rfl (Sub.refl _))))))) hk
    · intro hb67 hk
      refine o_guard_no rfl 117 rfl rfl rfl rfl rfl ?_
      refine o_guard_no rfl 117 rfl rfl rfl rfl rfl ?_
      refine o_guard_no rfl 117 rfl rfl rfl rfl rfl ?_
      refine o_pure (p_pick_false (v := .bool false) rfl rfl) rfl rfl rfl ?_
      exact o_sub (Sub.cons rfl (Sub.skip rfl (Sub.skip rfl (Sub.skip rfl (Sub.skip rfl (Sub.skip rfl (Sub.refl _))))))) hk
    refine o_pure (p_move (v := .bool (((((Flight.check l) == (Flight.check l)) && (Ref.sameInts (Flight.who l) [])) && (Ref.sameInts (Flight.when_ l) [])) && ((Flight.check l) == (Flight.check l)))) rfl) rfl rfl rfl ?_
    refine o_and (p := 126) 4 ((Flight.loads l) == 0) ?_ ?_ ?_
    · intro hb68 hk
      simp only [Bool.and_eq_true, beq_iff_eq] at hb68
      refine o_unguard 122 rfl rfl ?_
      refine o_pure (p_move (v := .int .i64 (Flight.loads l)) rfl) rfl rfl rfl ?_
      refine o_unguard 122 rfl rfl ?_
      refine o_pure (p_move (v := .int .i64 0) rfl) rfl rfl rfl ?_
      refine o_unguard 122 rfl rfl ?_
      refine o_pure (p_eq (p := (Flight.loads l)) (q := 0) rfl rfl) rfl rfl rfl ?_
      refine o_pure (p_pick_true (u := .bool ((Flight.loads l) == 0)) rfl rfl) rfl rfl rfl ?_
      exact o_sub (Sub.cons rfl (Sub.skip rfl (Sub.skip rfl (Sub.skip rfl (Sub.skip rfl (Sub.skip rfl (Sub.refl _))))))) hk
    · intro hb68 hk
      refine o_guard_no rfl 122 rfl rfl rfl rfl rfl ?_
      refine o_guard_no rfl 122 rfl rfl rfl rfl rfl ?_
      refine o_guard_no rfl 122 rfl rfl rfl rfl rfl ?_
      refine o_pure (p_pick_false (v := .bool false) rfl rfl) rfl rfl rfl ?_
      exact o_sub (Sub.cons rfl (Sub.skip rfl (Sub.skip rfl (Sub.skip rfl (Sub.skip rfl (Sub.skip rfl (Sub.refl _))))))) hk
    refine o_pure (p_move (v := .bool ((((((Flight.check l) == (Flight.check l)) && (Ref.sameInts (Flight.who l) [])) && (Ref.sameInts (Flight.when_ l) [])) && ((Flight.check l) == (Flight.check l))) && ((Flight.loads l) == 0))) rfl) rfl rfl rfl ?_
    refine o_and (p := 131) 4 ((Flight.check l) == (Flight.check l)) ?_ ?_ ?_
    · intro hb69 hk
      simp only [Bool.and_eq_true, beq_iff_eq] at hb69
      refine o_unguard 127 rfl rfl ?_
      refine o_pure (p_move (v := .int .i64 (Flight.check l)) rfl) rfl rfl rfl ?_
      refine o_unguard 127 rfl rfl ?_
      refine o_pure (p_move (v := .int .i64 (Flight.check l)) rfl) rfl rfl rfl ?_
      refine o_unguard 127 rfl rfl ?_
      refine o_pure (p_eq (p := (Flight.check l)) (q := (Flight.check l)) rfl rfl) rfl rfl rfl ?_
      refine o_pure (p_pick_true (u := .bool ((Flight.check l) == (Flight.check l))) rfl rfl) rfl rfl rfl ?_
      exact o_sub (Sub.cons rfl (Sub.skip rfl (Sub.skip rfl (Sub.skip rfl (Sub.skip rfl (Sub.skip rfl (Sub.refl _))))))) hk
    · intro hb69 hk
      refine o_guard_no rfl 127 rfl rfl rfl rfl rfl ?_
      refine o_guard_no rfl 127 rfl rfl rfl rfl rfl ?_
      refine o_guard_no rfl 127 rfl rfl rfl rfl rfl ?_
      refine o_pure (p_pick_false (v := .bool false) rfl rfl) rfl rfl rfl ?_
      exact o_sub (Sub.cons rfl (Sub.skip rfl (Sub.skip rfl (Sub.skip rfl (Sub.skip rfl (Sub.skip rfl (Sub.refl _))))))) hk
    refine o_pure (p_move (v := .bool (((((((Flight.check l) == (Flight.check l)) && (Ref.sameInts (Flight.who l) [])) && (Ref.sameInts (Flight.when_ l) [])) && ((Flight.check l) == (Flight.check l))) && ((Flight.loads l) == 0)) && ((Flight.check l) == (Flight.check l)))) rfl) rfl rfl rfl ?_
    refine o_and (p := 136) 4 (Ref.sameInts (Flight.active l at_) []) ?_ ?_ ?_
    · intro hb70 hk
      simp only [Bool.and_eq_true, beq_iff_eq] at hb70
      refine o_unguard 132 rfl rfl ?_
      refine o_pure (p_move (v := .slice a9 (Flight.active l at_).length c10) rfl) rfl rfl rfl ?_
      refine o_unguard 132 rfl rfl ?_
      refine o_pure (p_move (v := .slice none 0 0) rfl) rfl rfl rfl ?_
      refine o_unguard 132 rfl rfl ?_
      refine o_call0 (v := .bool (Ref.sameInts (Flight.active l at_) [])) rfl (sameInts_ok (Flight.active l at_) a9 c10 [] none 0) hf31 (fun w hw => ⟨(rd_own (i := 0) rfl) w hw, rd_nil w hw⟩) rfl ?_
      refine o_pure (p_pick_true (u := .bool (Ref.sameInts (Flight.active l at_) [])) rfl rfl) rfl rfl rfl ?_
      exact o_sub (Sub.cons rfl (Sub.skip rfl (Sub.skip rfl (Sub.skip rfl (Sub.skip rfl (Sub.skip rfl (Sub.refl _))))))) hk
    · intro hb70 hk
      refine o_guard_no rfl 132 rfl rfl rfl rfl rfl ?_
      refine o_guard_no rfl 132 rfl rfl rfl rfl rfl ?_
      refine o_guard_no rfl 132 rfl rfl rfl rfl rfl ?_
      refine o_pure (p_pick_false (v := .bool false) rfl rfl) rfl rfl rfl ?_
      exact o_sub (Sub.cons rfl (Sub.skip rfl (Sub.skip rfl (Sub.skip rfl (Sub.skip rfl (Sub.skip rfl (Sub.refl _))))))) hk
    refine o_pure (p_move (v := .bool ((((((((Flight.check l) == (Flight.check l)) && (Ref.sameInts (Flight.who l) [])) && (Ref.sameInts (Flight.when_ l) [])) && ((Flight.check l) == (Flight.check l))) && ((Flight.loads l) == 0)) && ((Flight.check l) == (Flight.check l))) && (Ref.sameInts (Flight.active l at_) []))) rfl) rfl rfl rfl ?_
    refine o_and (p := 141) 4 ((Flight.activeErr l at_) == (Flight.check l)) ?_ ?_ ?_
    · intro hb71 hk
      simp only [Bool.and_eq_true, beq_iff_eq] at hb71
      refine o_unguard 137 rfl rfl ?_
      refine o_pure (p_move (v := .int .i64 (Flight.activeErr l at_)) rfl) rfl rfl rfl ?_
      refine o_unguard 137 rfl rfl ?_
      refine o_pure (p_move (v := .int .i64 (Flight.check l)) rfl) rfl rfl rfl ?_
      refine o_unguard 137 rfl rfl ?_
      refine o_pure (p_eq (p := (Flight.activeErr l at_)) (q := (Flight.check l)) rfl rfl) rfl rfl rfl ?_
      refine o_pure (p_pick_true (u := .bool ((Flight.activeErr l at_) == (Flight.check l))) rfl rfl) rfl rfl rfl ?_
      exact o_sub (Sub.cons rfl (Sub.skip rfl (Sub.skip rfl (Sub.skip rfl (Sub.skip rfl (Sub.skip rfl (Sub.refl _))))))) hk
    · intro hb71 hk
      refine o_guard_no rfl 137 rfl rfl rfl rfl rfl ?_
      refine o_guard_no rfl 137 rfl rfl rfl rfl rfl ?_
      refine o_guard_no rfl 137 rfl rfl rfl rfl rfl ?_
      refine o_pure (p_pick_false (v := .bool false) rfl rfl) rfl rfl rfl ?_
      exact o_sub (Sub.cons rfl (Sub.skip rfl (Sub.skip rfl (Sub.skip rfl (Sub.skip rfl (Sub.skip rfl (Sub.refl _))))))) hk
    refine o_pure (p_assign (v := .bool (((((((((Flight.check l) == (Flight.check l)) && (Ref.sameInts (Flight.who l) [])) && (Ref.sameInts (Flight.when_ l) [])) && ((Flight.check l) == (Flight.check l))) && ((Flight.loads l) == 0)) && ((Flight.check l) == (Flight.check l))) && (Ref.sameInts (Flight.active l at_) [])) && ((Flight.activeErr l at_) == (Flight.check l)))) rfl) rfl rfl rfl ?_
    refine o_nil ?_
    refine q_then ?_
    refine c_ret ?_
    refine q_end0 (v := .bool (((((((((Flight.check l) == (Flight.check l)) && (Ref.sameInts (Flight.who l) [])) && (Ref.sameInts (Flight.when_ l) [])) && ((Flight.check l) == (Flight.check l))) && ((Flight.loads l) == 0)) && ((Flight.check l) == (Flight.check l))) && (Ref.sameInts (Flight.active l at_) [])) && ((Flight.activeErr l at_) == (Flight.check l)))) (rt1 rfl (r_tmp rfl)) (i := 2) rfl ?_
    congr 1
    by_cases hch : Flight.check l = 0
    rotate_left
    · first | exact absurd (by assumption) hch | simp [Flight.who, Flight.when_, Flight.loads, Flight.active, Flight.activeErr, Ref.sameInts, hch]
    · first
      | exact absurd hch (by assumption)
      | have hwho := Flight.who_eq hch
        have hpl := Flight.plan_length l
        obtain rfl : i = l.length := by omega
        have hda : List.drop l.length (Flight.plan l) = [] := List.drop_of_length_le (by omega)
        have hta : List.take l.length (Flight.plan l) = Flight.plan l := List.take_of_length_le (by omega)
        rw [hda] at hl2 hb1
        rw [hta] at hends
        have e1 : Flight.who l = Ref.crowdWho l := by unfold Flight.who; rw [if_pos hch]; exact hwho
        have e2 : Flight.when_ l = ends := by unfold Flight.when_; rw [if_pos hch, hends]
        have e3 : Flight.loads l = loads := by unfold Flight.loads; rw [if_pos hch, ← hl2]; simp [Flight.countOwn]
        have e4 : Flight.active l at_ = busy := by
          unfold Flight.active; split
          · rename_i ha; rw [← hb1 ha]; simp [Flight.activeGo]
          · rename_i ha; exact (hb2 ha).symm
        have e5 : Flight.activeErr l at_ = if at_ < 0 ∨ 1099511627776 < at_ then 3 else 0 := by unfold Flight.activeErr; rw [if_pos hch]
        rw [e1, e2, e3, e4, e5]
        first | rw [if_pos (by omega)] | rw [if_neg (by omega)]
        simp [Ref.sameInts, hch]
end Go.Proofs.Ythbfdhphnofacaa
