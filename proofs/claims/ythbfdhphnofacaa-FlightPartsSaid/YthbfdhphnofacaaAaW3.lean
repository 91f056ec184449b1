/- The walks, printed by a program from the translation and a specification. -/
import Derived.Test.YthbfdhphnofacaaAaF
import Derived.Test.YthbfdhphnofacaaFlPure
import Derived.Test.YthbfdhphnofacaaFlLaw
import Derived.Test.YthbfdhphnofacaaAaW1
namespace Go.Proofs.Ythbfdhphnofacaa
open Go.Sx Go.RowKit
set_option maxHeartbeats 8000000 in
set_option maxRecDepth 100000 in
theorem loads_ok (l : List DCall) (al : Option Addr) (cl : Nat) : Fn0 Try.prog 25 [.slice al l.length cl] (fun w => Rd tCall w al cl l) (.tuple #[.int .i64 (Flight.loads l), .int .i64 (Flight.check l)]) := by
  refine fn0 (nt := 29) (F0 := [(0, .slice al l.length cl)]) Try.func25 rfl Try.ntmps25 rfl rfl (fun w0 hpre => ?_)
  have hl := hpre
  have hll := hl.2.1
  refine c_seq ?_
  refine c_region ?_
  refine o_pure (p_assign (v := .int .i64 0) rfl) rfl rfl rfl ?_
  refine o_pure (p_assign (v := .int .i64 0) rfl) rfl rfl rfl ?_
  refine o_nil ?_
  refine q_then ?_
  refine c_seq ?_
  refine c_seq ?_
  refine c_region ?_
  refine o_pure (p_move (v := .slice al l.length cl) rfl) rfl rfl rfl ?_
  refine o_call0 (v := .int .i64 (Flight.check l)) rfl (check_ok l al cl) hf30 (fun w hw => (rd_base (i := 0) rfl hl) w hw) rfl ?_
  refine o_pure (p_assign (v := .int .i64 (Flight.check l)) rfl) rfl rfl rfl ?_
  refine o_nil ?_
  refine q_then ?_
  refine c_seq ?_
  refine c_region ?_
  refine o_pure (p_move (v := .int .i64 (Flight.check l)) rfl) rfl rfl rfl ?_
  refine o_pure (p_ne (p := (Flight.check l)) (q := 0) rfl rfl) rfl rfl rfl ?_
  refine o_nil ?_
  refine q_then ?_
  refine c_cond (b := ((Flight.check l) != 0)) rfl (fun hc1 => ?_) (fun hc1 => ?_)
  · simp only [bne_iff_ne, ne_eq] at hc1
    refine c_seq ?_
    refine c_region ?_
    refine o_pure (p_move (v := .int .i64 (Flight.check l)) rfl) rfl rfl rfl ?_
    refine o_pure (p_assign (v := .int .i64 0) rfl) rfl rfl rfl ?_
    refine o_pure (p_assign (v := .int .i64 (Flight.check l)) rfl) rfl rfl rfl ?_
    refine o_nil ?_
    refine q_then ?_
    refine c_ret ?_
    refine q_then_ret ?_
    refine q_end0 (v := .tuple #[.int .i64 0, .int .i64 (Flight.check l)]) (rt2 rfl (r_tmp rfl) (r_tmp rfl)) (i := 0) rfl ?_
    grind [Flight.loads, Flight.countOwn, List.drop_of_length_le]
  · simp only [bne_eq_false_iff_eq] at hc1
    refine c_skip ?_
    refine q_then ?_
    refine c_seq ?_
    refine c_region ?_
    refine o_pure (p_assign (v := .int .i64 0) rfl) rfl rfl rfl ?_
    refine o_nil ?_
    refine q_then ?_
    refine c_seq ?_
    refine c_seq ?_
    refine c_region ?_
    refine o_pure (p_move (v := .slice al l.length cl) rfl) rfl rfl rfl ?_
    refine o_callM rfl (plan_ok l al cl (by first | assumption | omega | exact Flight.check_len' (by assumption))) hf48 (fun w hw => (rd_base (i := 0) rfl hl) w hw) rfl (fun _ _ _ _ ha hA => SlO.agree ha hA) ?_
    rintro ⟨a4, c5⟩ S2
    refine o_pure (p_len_slice (len := (Flight.plan l).length) rfl rfl Try.underlying69) rfl rfl rfl ?_
    refine o_pure (p_move (v := .int .i64 0) rfl) rfl rfl rfl ?_
    refine o_nil ?_
    refine q_then ?_
    refine c_block ?_
    refine c_loop (St := Int × Nat)
      (fun ⟨n, k⟩ => [(5, .int .i64 n), (14, .slice a4 (Flight.plan l).length c5), (15, .int .i64 ((Flight.plan l).length : Int)), (16, .int .i64 (k : Int))])
      (fun ⟨n, k⟩ => [own tLoad S2 a4 c5 (Flight.plan l), base w0])
      (fun ⟨n, k⟩ => k ≤ (Flight.plan l).length ∧ 0 ≤ n ∧ n ≤ k ∧ n + Flight.countOwn k ((Flight.plan l).drop k) = Flight.countOwn 0 (Flight.plan l))
      (fun ⟨n, k⟩ => (Flight.plan l).length - k)
      (0, 0) ?_ (Sub.cons rfl (Sub.cons rfl (Sub.cons rfl (Sub.cons rfl (Sub.nil _))))) (fun _ hw => hw) ?_
    · simp
    rintro ⟨n, k⟩ hI K hK6
    obtain ⟨hk, hn0, hn1, hinv⟩ := hI
    have hpl := Flight.plan_length l
    have h60 := Flight.check_len hc1
    show SC Try.prog 29 w0 _ _ [(5, .int .i64 n), (14, .slice a4 (Flight.plan l).length c5), (15, .int .i64 ((Flight.plan l).length : Int)), (16, .int .i64 (k : Int))] [own tLoad S2 a4 c5 (Flight.plan l), base w0]
    refine c_seq ?_
    refine c_region ?_
    refine o_pure (p_lt (p := (k : Int)) (q := ((Flight.plan l).length : Int)) rfl rfl) rfl rfl rfl ?_
    refine o_nil ?_
    refine q_then ?_
    refine c_seq ?_
    refine c_cond (b := decide ((k : Int) < ((Flight.plan l).length : Int))) rfl (fun hc7 => ?_) (fun hc7 => ?_)
    · simp only [decide_eq_true_eq] at hc7
      refine c_skip ?_
      refine q_then ?_
      refine c_seq ?_
      refine c_block ?_
      refine c_seq ?_
      refine c_region ?_
      refine o_pure (p_move (v := .int .i64 (k : Int)) rfl) rfl rfl rfl ?_
      refine o_pure (p_indexAddr (L := (Flight.plan l)) (T := tLoad) (i := (k : Int)) rfl rfl (rd_own (i := 0) rfl) Try.underlying69 sz72 (by omega) (by omega)) rfl rfl rfl ?_
      refine o_pure (p_loadEn (i := k) (T := tLoad) (L := (Flight.plan l)) (vs := [.int .i64 (((Flight.plan l)[k]).who), .int .i64 (((Flight.plan l)[k]).ends)]) rfl (rd_own (i := 0) rfl) (by first | assumption | omega) sh72 rfl) rfl rfl rfl ?_
      refine o_alloc ze72 rfl (fun B8 => ?_)
      refine o_pure (p_assign (v := .int .i64 (k : Int)) rfl) rfl rfl rfl ?_
      refine o_storeN (i := 0) (vs := [.int .i64 (((Flight.plan l)[k]).who), .int .i64 (((Flight.plan l)[k]).ends)]) (cs' := [.int .i64 (((Flight.plan l)[k]).who), .int .i64 (((Flight.plan l)[k]).ends)]) rfl rfl rfl sz72 rfl rfl rfl rfl ?_
      refine o_nil ?_
      refine q_then ?_
      refine c_seq ?_
      refine c_region ?_
      refine o_pure (p_fieldAddr (B := B8) (j := 0) (j' := 0) rfl fo72_0 rfl) rfl rfl rfl ?_
      refine o_pure (p_load (i := 0) (v := .int .i64 (((Flight.plan l)[k]).who)) rfl rfl sh3 rfl) rfl rfl rfl ?_
      refine o_pure (p_move (v := .int .i64 (k : Int)) rfl) rfl rfl rfl ?_
      refine o_pure (p_eq (p := ((Flight.plan l)[k]).who) (q := (k : Int)) rfl rfl) rfl rfl rfl ?_
      refine o_nil ?_
      refine q_then ?_
      refine c_cond (b := (((Flight.plan l)[k]).who == (k : Int))) rfl (fun hc9 => ?_) (fun hc9 => ?_)
      · simp only [beq_iff_eq] at hc9
        refine c_region ?_
        refine o_pure (p_move (v := .int .i64 n) rfl) rfl rfl rfl ?_
        refine o_pure (p_addb (p := n) (q := 1) rfl rfl (by omega)) rfl rfl rfl ?_
        refine o_pure (p_assign (v := .int .i64 (n + 1)) rfl) rfl rfl rfl ?_
        refine o_nil ?_
        refine q_block_normal (q_then ?_)
        refine c_region ?_
        refine o_pure (p_addb (p := (k : Int)) (q := 1) rfl rfl (by omega)) rfl rfl rfl ?_
        refine o_pure (p_move (v := .int .i64 ((k : Int) + 1)) rfl) rfl rfl rfl ?_
        refine o_nil ?_
        refine q_round hK6 ((n + 1), k + 1) ?_ ?_ ?_ ?_
        · clear hK6
          refine ⟨by omega, by omega, by omega, ?_⟩
          rw [List.drop_eq_getElem_cons (by omega), Flight.countOwn] at hinv
          grind
        · (try dsimp only); omega
        · exact Sub.cons rfl (Sub.cons rfl (Sub.cons rfl (Sub.cons rfl (Sub.nil _))))
        · exact fun _ hw => HeapIs.drop hw (List.Sublist.cons _ (List.Sublist.refl _))
      · simp only [beq_eq_false_iff_ne, ne_eq] at hc9
        refine c_skip ?_
        refine q_block_normal (q_then ?_)
        refine c_region ?_
        refine o_pure (p_addb (p := (k : Int)) (q := 1) rfl rfl (by omega)) rfl rfl rfl ?_
        refine o_pure (p_move (v := .int .i64 ((k : Int) + 1)) rfl) rfl rfl rfl ?_
        refine o_nil ?_
        refine q_round hK6 (n, k + 1) ?_ ?_ ?_ ?_
        · clear hK6
          refine ⟨by omega, by omega, by omega, ?_⟩
          rw [List.drop_eq_getElem_cons (by omega), Flight.countOwn] at hinv
          grind
        · (try dsimp only); omega
        · exact Sub.cons rfl (Sub.cons rfl (Sub.cons rfl (Sub.cons rfl (Sub.nil _))))
        · exact fun _ hw => HeapIs.drop hw (List.Sublist.cons _ (List.Sublist.refl _))
    · simp only [decide_eq_false_iff_not, Int.not_lt] at hc7
      refine c_exit ?_
      refine q_then_exit (q_then_exit (q_block_exit (q_then ?_)))
      refine c_seq ?_
      refine c_region ?_
      refine o_pure (p_move (v := .int .i64 n) rfl) rfl rfl rfl ?_
      refine o_pure (p_assign (v := .int .i64 n) rfl) rfl rfl rfl ?_
      refine o_pure (p_assign (v := .int .i64 0) rfl) rfl rfl rfl ?_
      refine o_nil ?_
      refine q_then ?_
      refine c_ret ?_
      refine q_end0 (v := .tuple #[.int .i64 n, .int .i64 0]) (rt2 rfl (r_tmp rfl) (r_tmp rfl)) (i := 1) rfl ?_
      grind [Flight.loads, Flight.countOwn, List.drop_of_length_le]

set_option maxHeartbeats 8000000 in
set_option maxRecDepth 100000 in
theorem active_ok (l : List DCall) (al : Option Addr) (cl : Nat) (at_ : Int) : FnM Try.prog 26 [.slice al l.length cl, .int .i64 at_] (fun w => Rd tCall w al cl l) (Option Addr × Nat) (fun p => .tuple #[.slice p.1 (Flight.active l at_).length p.2, .int .i64 (Flight.activeErr l at_)]) (fun p S w => SlO tInt S w p.1 p.2 (Flight.active l at_)) := by
  refine fnM (nt := 58) (F0 := [(0, .slice al l.length cl), (1, .int .i64 at_)]) Try.func26 rfl Try.ntmps26 rfl rfl (fun w0 hpre => ?_)
  have hl := hpre
  have hll := hl.2.1
  refine c_seq ?_
  refine c_region ?_
  refine o_pure (p_assign (v := .slice none 0 0) rfl) rfl rfl rfl ?_
  refine o_pure (p_assign (v := .int .i64 0) rfl) rfl rfl rfl ?_
  refine o_nil ?_
  refine q_then ?_
  refine c_seq ?_
  refine c_region ?_
  refine o_pure (p_move (v := .slice al l.length cl) rfl) rfl rfl rfl ?_
  refine o_call0 (v := .int .i64 (Flight.check l)) rfl (check_ok l al cl) hf30 (fun w hw => (rd_base (i := 0) rfl hl) w hw) rfl ?_
  refine o_pure (p_assign (v := .int .i64 (Flight.check l)) rfl) rfl rfl rfl ?_
  refine o_nil ?_
  refine q_then ?_
  refine c_seq ?_
  refine c_seq ?_
  refine c_region ?_
  refine o_pure (p_move (v := .int .i64 (Flight.check l)) rfl) rfl rfl rfl ?_
  refine o_pure (p_eq (p := (Flight.check l)) (q := 0) rfl rfl) rfl rfl rfl ?_
  refine o_pure (p_move (v := .bool ((Flight.check l) == 0)) rfl) rfl rfl rfl ?_
  refine o_and (p := 21) 7 (decide (at_ < 0) || decide (1099511627776 < at_)) ?_ ?_ ?_
  · intro hb1 hk
    simp only [beq_iff_eq] at hb1
    refine o_unguard 14 rfl rfl ?_
    refine o_pure (p_move (v := .int .i64 at_) rfl) rfl rfl rfl ?_
    refine o_unguard 14 rfl rfl ?_
    refine o_pure (p_lt (p := at_) (q := 0) rfl rfl) rfl rfl rfl ?_
    refine o_unguard 14 rfl rfl ?_
    refine o_pure (p_move (v := .bool (decide (at_ < 0))) rfl) rfl rfl rfl ?_
    refine o_or (p := 20) 3 (decide (1099511627776 < at_)) ?_ ?_ ?_
    · intro hb2 hk
      simp only [decide_eq_false_iff_not, Int.not_lt] at hb2
      refine o_unguard 17 rfl rfl ?_
      refine o_pure (p_move (v := .int .i64 at_) rfl) rfl rfl rfl ?_
      refine o_unguard 17 rfl rfl ?_
      refine o_pure (p_gt (p := at_) (q := 1099511627776) rfl rfl) rfl rfl rfl ?_
      refine o_unguard 14 rfl rfl ?_
      refine o_pure (p_pick_false (v := .bool (decide (1099511627776 < at_))) rfl rfl) rfl rfl rfl ?_
      exact o_sub (Sub.cons rfl (Sub.skip rfl (Sub.skip rfl (Sub.skip rfl (Sub.skip rfl (Sub.refl _)))))) hk
    · intro hb2 hk
      refine o_guard_no rfl 17 rfl rfl rfl rfl rfl ?_
      refine o_guard_no rfl 17 rfl rfl rfl rfl rfl ?_
      refine o_unguard 14 rfl rfl ?_
      refine o_pure (p_pick_true (u := .bool true) rfl rfl) rfl rfl rfl ?_
      exact o_sub (Sub.cons rfl (Sub.skip rfl (Sub.skip rfl (Sub.skip rfl (Sub.skip rfl (Sub.refl _)))))) hk
    refine o_pure (p_pick_true (u := .bool (decide (at_ < 0) || decide (1099511627776 < at_))) rfl rfl) rfl rfl rfl ?_
    exact o_sub (Sub.cons rfl (Sub.skip rfl (Sub.skip rfl (Sub.skip rfl (Sub.skip rfl (Sub.skip rfl (Sub.refl _))))))) hk
  · intro hb1 hk
    refine o_guard_no rfl 14 rfl rfl rfl rfl rfl ?_
    refine o_guard_no rfl 14 rfl rfl rfl rfl rfl ?_
    refine o_guard_no rfl 14 rfl rfl rfl rfl rfl ?_
    refine o_guard_no rfl 17 rfl rfl rfl rfl rfl ?_
    refine o_guard_no rfl 17 rfl rfl rfl rfl rfl ?_
    refine o_guard_no rfl 14 rfl rfl rfl rfl rfl ?_
    refine o_pure (p_pick_false (v := .bool false) rfl rfl) rfl rfl rfl ?_
    exact o_sub (Sub.cons rfl (Sub.skip rfl (Sub.skip rfl (Sub.skip rfl (Sub.skip rfl (Sub.skip rfl (Sub.skip rfl (Sub.skip rfl (Sub.skip rfl (Sub.refl _)))))))))) hk
  refine o_nil ?_
  refine q_then ?_
  refine c_cond (b := (((Flight.check l) == 0) && (decide (at_ < 0) || decide (1099511627776 < at_)))) rfl (fun hc3 => ?_) (fun hc3 => ?_)
  · simp only [Bool.and_eq_true, beq_iff_eq, Bool.or_eq_true, decide_eq_true_eq] at hc3
    refine c_region ?_
    refine o_pure (p_assign (v := .int .i64 3) rfl) rfl rfl rfl ?_
    refine o_nil ?_
    refine q_then ?_
    refine c_seq ?_
    refine c_seq ?_
    refine c_region ?_
    refine o_pure (p_move (v := .int .i64 3) rfl) rfl rfl rfl ?_
    refine o_pure (p_ne (p := 3) (q := 0) rfl rfl) rfl rfl rfl ?_
    refine o_nil ?_
    refine q_then ?_
    refine c_true rfl ?_
    refine c_seq ?_
    refine c_region ?_
    refine o_pure (p_move (v := .int .i64 3) rfl) rfl rfl rfl ?_
    refine o_pure (p_assign (v := .slice none 0 0) rfl) rfl rfl rfl ?_
    refine o_pure (p_assign (v := .int .i64 3) rfl) rfl rfl rfl ?_
    refine o_nil ?_
    refine q_then ?_
    refine c_ret ?_
    refine q_then_ret ?_
    obtain ⟨hr0, hr1⟩ : (([] : List Int) = Flight.active l at_) ∧ ((.int .i64 3 : Value) = .int .i64 (Flight.activeErr l at_)) := by
      refine ⟨?_, ?_⟩
      · grind [Flight.active, Flight.activeErr, Flight.activeGo, List.drop_of_length_le]
      · grind [Flight.active, Flight.activeErr, Flight.activeGo, List.drop_of_length_le]
    refine q_endM (p := (none, 0)) (fun _ => False) (rt2 rfl (r_tmp rfl) (r_tmp rfl)) (i := 0) rfl ?_ ?_ ?_
    · simp only [← hr0, hr1, List.length_nil]
    · intro w hw b hb; exact hb.elim
    · intro w hw; exact by rw [← hr0]; exact SlO.nil tInt w
  · simp only [Bool.and_eq_false_iff, beq_eq_false_iff_ne, ne_eq, Bool.or_eq_false_iff, decide_eq_false_iff_not, Int.not_lt] at hc3
    refine c_skip ?_
    refine q_then ?_
    refine c_seq ?_
    refine c_seq ?_
    refine c_region ?_
    refine o_pure (p_move (v := .int .i64 (Flight.check l)) rfl) rfl rfl rfl ?_
    refine o_pure (p_ne (p := (Flight.check l)) (q := 0) rfl rfl) rfl rfl rfl ?_
    refine o_nil ?_
    refine q_then ?_
    refine c_cond (b := ((Flight.check l) != 0)) rfl (fun hc4 => ?_) (fun hc4 => ?_)
    · simp only [bne_iff_ne, ne_eq] at hc4
      refine c_seq ?_
      refine c_region ?_
      refine o_pure (p_move (v := .int .i64 (Flight.check l)) rfl) rfl rfl rfl ?_
      refine o_pure (p_assign (v := .slice none 0 0) rfl) rfl rfl rfl ?_
      refine o_pure (p_assign (v := .int .i64 (Flight.check l)) rfl) rfl rfl rfl ?_
      refine o_nil ?_
      refine q_then ?_
      refine c_ret ?_
      refine q_then_ret ?_
      obtain ⟨hr0, hr1⟩ : (([] : List Int) = Flight.active l at_) ∧ ((.int .i64 (Flight.check l) : Value) = .int .i64 (Flight.activeErr l at_)) := by
        refine ⟨?_, ?_⟩
        · grind [Flight.active, Flight.activeErr, Flight.activeGo, List.drop_of_length_le]
        · grind [Flight.active, Flight.activeErr, Flight.activeGo, List.drop_of_length_le]
      refine q_endM (p := (none, 0)) (fun _ => False) (rt2 rfl (r_tmp rfl) (r_tmp rfl)) (i := 0) rfl ?_ ?_ ?_
      · simp only [← hr0, hr1, List.length_nil]
      · intro w hw b hb; exact hb.elim
      · intro w hw; exact by rw [← hr0]; exact SlO.nil tInt w
    · simp only [bne_eq_false_iff_eq] at hc4
      refine c_skip ?_
      refine q_then ?_
      refine c_seq ?_
      refine c_region ?_
      refine o_pure (p_assign (v := .slice none 0 0) rfl) rfl rfl rfl ?_
      refine o_nil ?_
      refine q_then ?_
      refine c_seq ?_
      refine c_seq ?_
      refine c_region ?_
      refine o_pure (p_move (v := .slice al l.length cl) rfl) rfl rfl rfl ?_
      refine o_callM rfl (plan_ok l al cl (by first | assumption | omega | exact Flight.check_len' (by assumption))) hf48 (fun w hw => (rd_base (i := 0) rfl hl) w hw) rfl (fun _ _ _ _ ha hA => SlO.agree ha hA) ?_
      rintro ⟨a7, c8⟩ S5
      refine o_pure (p_len_slice (len := (Flight.plan l).length) rfl rfl Try.underlying69) rfl rfl rfl ?_
      refine o_pure (p_move (v := .int .i64 0) rfl) rfl rfl rfl ?_
      refine o_nil ?_
      refine q_then ?_
      refine c_block ?_
      refine c_ownNil tInt ?_
      refine c_loop (St := List Int × Option Addr × Nat × (Nat → Prop) × Nat)
        (fun ⟨out, aout, cout, Sout, k⟩ => [(0, .slice al l.length cl), (1, .int .i64 at_), (7, .slice aout out.length cout), (26, .slice a7 (Flight.plan l).length c8), (27, .int .i64 ((Flight.plan l).length : Int)), (28, .int .i64 (k : Int))])
        (fun ⟨out, aout, cout, Sout, k⟩ => [own tInt Sout aout cout out, own tLoad S5 a7 c8 (Flight.plan l), base w0])
        (fun ⟨out, aout, cout, Sout, k⟩ => k ≤ (Flight.plan l).length ∧ out.length ≤ k ∧ out ++ Flight.activeGo at_ k (l.drop k) ((Flight.plan l).drop k) = Flight.activeGo at_ 0 l (Flight.plan l))
        (fun ⟨out, aout, cout, Sout, k⟩ => (Flight.plan l).length - k)
        ([], none, 0, (fun _ => False), 0) ?_ (Sub.cons rfl (Sub.cons rfl (Sub.cons rfl (Sub.cons rfl (Sub.cons rfl (Sub.cons rfl (Sub.nil _))))))) (fun _ hw => hw) ?_
      · simp
      rintro ⟨out, aout, cout, Sout, k⟩ hI K hK10
      obtain ⟨hk, hn0, hinv⟩ := hI
      have hpl := Flight.plan_length l
      have h60 := Flight.check_len (by assumption)
      show SC Try.prog 58 w0 _ _ [(0, .slice al l.length cl), (1, .int .i64 at_), (7, .slice aout out.length cout), (26, .slice a7 (Flight.plan l).length c8), (27, .int .i64 ((Flight.plan l).length : Int)), (28, .int .i64 (k : Int))] [own tInt Sout aout cout out, own tLoad S5 a7 c8 (Flight.plan l), base w0]
      refine c_seq ?_
      refine c_region ?_
      refine o_pure (p_lt (p := (k : Int)) (q := ((Flight.plan l).length : Int)) rfl rfl) rfl rfl rfl ?_
      refine o_nil ?_
      refine q_then ?_
      refine c_seq ?_
      refine c_cond (b := decide ((k : Int) < ((Flight.plan l).length : Int))) rfl (fun hc11 => ?_) (fun hc11 => ?_)
      · simp only [decide_eq_true_eq] at hc11
        refine c_skip ?_
        refine q_then ?_
        refine c_seq ?_
        refine c_block ?_
        refine c_seq ?_
        refine c_region ?_
        refine o_pure (p_move (v := .int .i64 (k : Int)) rfl) rfl rfl rfl ?_
        refine o_pure (p_indexAddr (L := (Flight.plan l)) (T := tLoad) (i := (k : Int)) rfl rfl (rd_own (i := 1) rfl) Try.underlying69 sz72 (by omega) (by omega)) rfl rfl rfl ?_
        refine o_pure (p_loadEn (i := k) (T := tLoad) (L := (Flight.plan l)) (vs := [.int .i64 (((Flight.plan l)[k]).who), .int .i64 (((Flight.plan l)[k]).ends)]) rfl (rd_own (i := 1) rfl) (by first | assumption | omega) sh72 rfl) rfl rfl rfl ?_
        refine o_alloc ze72 rfl (fun B12 => ?_)
        refine o_pure (p_assign (v := .int .i64 (k : Int)) rfl) rfl rfl rfl ?_
        refine o_storeN (i := 0) (vs := [.int .i64 (((Flight.plan l)[k]).who), .int .i64 (((Flight.plan l)[k]).ends)]) (cs' := [.int .i64 (((Flight.plan l)[k]).who), .int .i64 (((Flight.plan l)[k]).ends)]) rfl rfl rfl sz72 rfl rfl rfl rfl ?_
        refine o_nil ?_
        refine q_then ?_
        refine c_seq ?_
        refine c_region ?_
        refine o_pure (p_fieldAddr (B := B12) (j := 0) (j' := 0) rfl fo72_0 rfl) rfl rfl rfl ?_
        refine o_pure (p_load (i := 0) (v := .int .i64 (((Flight.plan l)[k]).who)) rfl rfl sh3 rfl) rfl rfl rfl ?_
        refine o_pure (p_move (v := .int .i64 (k : Int)) rfl) rfl rfl rfl ?_
        refine o_pure (p_eq (p := ((Flight.plan l)[k]).who) (q := (k : Int)) rfl rfl) rfl rfl rfl ?_
        refine o_pure (p_move (v := .bool (((Flight.plan l)[k]).who == (k : Int))) rfl) rfl rfl rfl ?_
        refine o_and (p := 45) 8 (decide ((l[k]).at_ ≤ at_)) ?_ ?_ ?_
        · intro hb13 hk
          simp only [beq_iff_eq] at hb13
          refine o_unguard 37 rfl rfl ?_
          refine o_pure (p_move (v := .slice al l.length cl) rfl) rfl rfl rfl ?_
          refine o_unguard 37 rfl rfl ?_
          refine o_pure (p_move (v := .int .i64 (k : Int)) rfl) rfl rfl rfl ?_
          refine o_unguard 37 rfl rfl ?_
          refine o_pure (p_indexAddr (L := l) (T := tCall) (i := (k : Int)) rfl rfl (rd_base (i := 3) rfl hl) Try.underlying37 sz47 (by omega) (by omega)) rfl rfl rfl ?_
          refine o_unguard 37 rfl rfl ?_
          refine o_pure (p_fieldAddrE rfl fo47_1) rfl rfl rfl ?_
          refine o_unguard 37 rfl rfl ?_
          refine o_pure (p_loadF (i := k) (j := 1) (T := tCall) (L := l) (v := .int .i64 ((l[k]).at_)) rfl (rd_base (i := 3) rfl hl) (by first | assumption | omega) sh3 rfl) rfl rfl rfl ?_
          refine o_unguard 37 rfl rfl ?_
          refine o_pure (p_move (v := .int .i64 at_) rfl) rfl rfl rfl ?_
          refine o_unguard 37 rfl rfl ?_
          refine o_pure (p_le (p := (l[k]).at_) (q := at_) rfl rfl) rfl rfl rfl ?_
          refine o_pure (p_pick_true (u := .bool (decide ((l[k]).at_ ≤ at_))) rfl rfl) rfl rfl rfl ?_
          exact o_sub (Sub.cons rfl (Sub.skip rfl (Sub.skip rfl (Sub.skip rfl (Sub.skip rfl (Sub.skip rfl (Sub.skip rfl (Sub.skip rfl (Sub.skip rfl (Sub.skip rfl (Sub.refl _))))))))))) hk
        · intro hb13 hk
          refine o_guard_no rfl 37 rfl rfl rfl rfl rfl ?_
          refine o_guard_no rfl 37 rfl rfl rfl rfl rfl ?_
          refine o_guard_no rfl 37 rfl rfl rfl rfl rfl ?_
          refine o_guard_no rfl 37 rfl rfl rfl rfl rfl ?_
          refine o_guard_no rfl 37 rfl rfl rfl rfl rfl ?_
          refine o_guard_no rfl 37 rfl rfl rfl rfl rfl ?_
          refine o_guard_no rfl 37 rfl rfl rfl rfl rfl ?_
          refine o_pure (p_pick_false (v := .bool false) rfl rfl) rfl rfl rfl ?_
          exact o_sub (Sub.cons rfl (Sub.skip rfl (Sub.skip rfl (Sub.skip rfl (Sub.skip rfl (Sub.skip rfl (Sub.skip rfl (Sub.skip rfl (Sub.skip rfl (Sub.skip rfl (Sub.refl _))))))))))) hk
        refine o_pure (p_move (v := .bool ((((Flight.plan l)[k]).who == (k : Int)) && decide ((l[k]).at_ ≤ at_))) rfl) rfl rfl rfl ?_
        refine o_and (p := 51) 5 (decide (at_ < ((Flight.plan l)[k]).ends)) ?_ ?_ ?_
        · intro hb14 hk
          simp only [Bool.and_eq_true, beq_iff_eq, decide_eq_true_eq] at hb14
          refine o_unguard 46 rfl rfl ?_
          refine o_pure (p_move (v := .int .i64 at_) rfl) rfl rfl rfl ?_
          refine o_unguard 46 rfl rfl ?_
          refine o_pure (p_fieldAddr (B := B12) (j := 0) (j' := 1) rfl fo72_1 rfl) rfl rfl rfl ?_
          refine o_unguard 46 rfl rfl ?_
          refine o_pure (p_load (i := 0) (v := .int .i64 (((Flight.plan l)[k]).ends)) rfl rfl sh3 rfl) rfl rfl rfl ?_
          refine o_unguard 46 rfl rfl ?_
          refine o_pure (p_lt (p := at_) (q := ((Flight.plan l)[k]).ends) rfl rfl) rfl rfl rfl ?_
          refine o_pure (p_pick_true (u := .bool (decide (at_ < ((Flight.plan l)[k]).ends))) rfl rfl) rfl rfl rfl ?_
          exact o_sub (Sub.cons rfl (Sub.skip rfl (Sub.skip rfl (Sub.skip rfl (Sub.skip rfl (Sub.skip rfl (Sub.skip rfl (Sub.refl _)))))))) hk
        · intro hb14 hk
          refine o_guard_no rfl 46 rfl rfl rfl rfl rfl ?_
          refine o_guard_no rfl 46 rfl rfl rfl rfl rfl ?_
          refine o_guard_no rfl 46 rfl rfl rfl rfl rfl ?_
          refine o_guard_no rfl 46 rfl rfl rfl rfl rfl ?_
          refine o_pure (p_pick_false (v := .bool false) rfl rfl) rfl rfl rfl ?_
          exact o_sub (Sub.cons rfl (Sub.skip rfl (Sub.skip rfl (Sub.skip rfl (Sub.skip rfl (Sub.skip rfl (Sub.skip rfl (Sub.refl _)))))))) hk
        refine o_nil ?_
        refine q_then ?_
        refine c_cond (b := (((((Flight.plan l)[k]).who == (k : Int)) && decide ((l[k]).at_ ≤ at_)) && decide (at_ < ((Flight.plan l)[k]).ends))) rfl (fun hc15 => ?_) (fun hc15 => ?_)
        · simp only [Bool.and_eq_true, beq_iff_eq, decide_eq_true_eq] at hc15
          refine c_region ?_
          refine o_pure (p_move (v := .slice aout out.length cout) rfl) rfl rfl rfl ?_
          refine o_pure (p_move (v := .int .i64 (k : Int)) rfl) rfl rfl rfl ?_
          refine o_buildSlice (m := 1) (T := tInt) (L := [(k : Int)]) (vs := [.int .i64 (k : Int)]) rfl rfl rfl rfl Try.underlying38 sz3 (by decide) ze3 rfl (by decide) rfl (fun S16 a17 => ?_)
          refine o_append (i := 2) (L := out) (M := [(k : Int)]) (T := tInt) rfl rfl rfl (rd_own (i := 0) rfl) Try.underlying38 Try.underlying38 (by intro k h; cases h) el3 (by intro z; simp [tInt, one1]) (by decide) (by simp only [List.length_cons, List.length_nil]; omega) rfl (fun a19 c20 S21 => ?_)
          refine o_pure (p_assign (v := .slice a19 (out ++ [(k : Int)]).length c20) rfl) rfl rfl rfl ?_
          refine o_nil ?_
          refine q_block_normal (q_then ?_)
          refine c_region ?_
          refine o_pure (p_addb (p := (k : Int)) (q := 1) rfl rfl (by omega)) rfl rfl rfl ?_
          refine o_pure (p_move (v := .int .i64 ((k : Int) + 1)) rfl) rfl rfl rfl ?_
          refine o_nil ?_
          refine q_round hK10 ((out ++ [(k : Int)]), a19, c20, S21, k + 1) ?_ ?_ ?_ ?_
          · clear hK10
            refine ⟨by omega, by grind, ?_⟩
            rw [List.drop_eq_getElem_cons (l := Flight.plan l) (by omega), List.drop_eq_getElem_cons (l := l) (by omega), Flight.activeGo] at hinv
            grind
          · (try dsimp only); omega
          · exact Sub.cons rfl (Sub.cons rfl (Sub.cons rfl (Sub.cons rfl (Sub.cons rfl (Sub.cons rfl (Sub.nil _))))))
          · exact fun _ hw => HeapIs.drop hw (List.Sublist.cons _ (List.Sublist.cons _ (List.Sublist.refl _)))
        · simp only [Bool.and_eq_false_iff, beq_eq_false_iff_ne, ne_eq, decide_eq_false_iff_not, Int.not_le, Int.not_lt] at hc15
          refine c_skip ?_
          refine q_block_normal (q_then ?_)
          refine c_region ?_
          refine o_pure (p_addb (p := (k : Int)) (q := 1) rfl rfl (by omega)) rfl rfl rfl ?_
          refine o_pure (p_move (v := .int .i64 ((k : Int) + 1)) rfl) rfl rfl rfl ?_
          refine o_nil ?_
          refine q_round hK10 (out, aout, cout, Sout, k + 1) ?_ ?_ ?_ ?_
          · clear hK10
            refine ⟨by omega, by grind, ?_⟩
            rw [List.drop_eq_getElem_cons (l := Flight.plan l) (by omega), List.drop_eq_getElem_cons (l := l) (by omega), Flight.activeGo] at hinv
            grind
          · (try dsimp only); omega
          · exact Sub.cons rfl (Sub.cons rfl (Sub.cons rfl (Sub.cons rfl (Sub.cons rfl (Sub.cons rfl (Sub.nil _))))))
          · exact fun _ hw => HeapIs.drop hw (List.Sublist.cons _ (List.Sublist.refl _))
      · simp only [decide_eq_false_iff_not, Int.not_lt] at hc11
        refine c_exit ?_
        refine q_then_exit (q_then_exit (q_block_exit (q_then ?_)))
        refine c_seq ?_
        refine c_region ?_
        refine o_pure (p_move (v := .slice aout out.length cout) rfl) rfl rfl rfl ?_
        refine o_pure (p_assign (v := .slice aout out.length cout) rfl) rfl rfl rfl ?_
        refine o_pure (p_assign (v := .int .i64 0) rfl) rfl rfl rfl ?_
        refine o_nil ?_
        refine q_then ?_
        refine c_ret ?_
        obtain ⟨hr0, hr1⟩ : ((out : List Int) = Flight.active l at_) ∧ ((.int .i64 0 : Value) = .int .i64 (Flight.activeErr l at_)) := by
          refine ⟨?_, ?_⟩
          · grind [Flight.active, Flight.activeErr, Flight.activeGo, List.drop_of_length_le]
          · grind [Flight.active, Flight.activeErr, Flight.activeGo, List.drop_of_length_le]
        refine q_endM (p := (aout, cout)) Sout (rt2 rfl (r_tmp rfl) (r_tmp rfl)) (i := 2) rfl ?_ ?_ ?_
        · simp only [← hr0, hr1, List.length_nil]
        · exact fun w hw => hw.above (i := 2) (j := 0) (by decide) rfl rfl
        · intro w hw; exact by rw [← hr0]; have h := (hw.at (i := 0) rfl).here; exact h
end Go.Proofs.Ythbfdhphnofacaa
