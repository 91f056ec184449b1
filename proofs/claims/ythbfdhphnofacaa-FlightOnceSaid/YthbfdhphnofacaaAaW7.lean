/- The walks, printed by a program from the translation and a specification. -/
import Derived.Test.YthbfdhphnofacaaAaF
import Derived.Test.YthbfdhphnofacaaFlPure
import Derived.Test.YthbfdhphnofacaaFlLaw
import Derived.Test.YthbfdhphnofacaaAaW5
import Derived.Test.YthbfdhphnofacaaFlLaw2
namespace Go.Proofs.Ythbfdhphnofacaa
open Go.Sx Go.RowKit
set_option maxHeartbeats 8000000 in
set_option maxRecDepth 100000 in
theorem flightOnce_ok (l : List DCall) (al : Option Addr) (cl : Nat) (at_ : Int) : Fn0 Try.prog 8 [.slice al l.length cl, .int .i64 at_] (fun w => Rd tCall w al cl l) (.bool true) := by
  refine fn0 (nt := 177) (F0 := [(0, .slice al l.length cl), (1, .int .i64 at_)]) Try.func8 rfl Try.ntmps8 rfl rfl (fun w0 hpre => ?_)
  have hl := hpre
  have hll := hl.2.1
  refine c_seq ?_
  refine c_region ?_
  refine o_pure (p_assign (v := .bool false) rfl) rfl rfl rfl ?_
  refine o_nil ?_
  refine q_then ?_
  refine c_seq ?_
  refine c_region ?_
  refine o_pure (p_move (v := .slice al l.length cl) rfl) rfl rfl rfl ?_
  refine o_callM rfl (planEx_ok l al cl) hf24 (fun w hw => (rd_base (i := 0) rfl hl) w hw) rfl (fun _ _ _ _ ha hA => ⟨SlR.agree ha hA.1, SlR.agree ha hA.2⟩) ?_
  rintro ⟨a3, c4, a5, c6⟩ S1
  refine o_pure (p_move (v := .tuple #[.slice a3 (Flight.who l).length c4, .slice a5 (Flight.when_ l).length c6, .int .i64 (Flight.check l)]) rfl) rfl rfl rfl ?_
  refine o_pure (p_extract (vs := [.slice a3 (Flight.who l).length c4, .slice a5 (Flight.when_ l).length c6, .int .i64 (Flight.check l)]) (v := .slice a3 (Flight.who l).length c4) rfl rfl) rfl rfl rfl ?_
  refine o_pure (p_extract (vs := [.slice a3 (Flight.who l).length c4, .slice a5 (Flight.when_ l).length c6, .int .i64 (Flight.check l)]) (v := .slice a5 (Flight.when_ l).length c6) rfl rfl) rfl rfl rfl ?_
  refine o_pure (p_extract (vs := [.slice a3 (Flight.who l).length c4, .slice a5 (Flight.when_ l).length c6, .int .i64 (Flight.check l)]) (v := .int .i64 (Flight.check l)) rfl rfl) rfl rfl rfl ?_
  refine o_pure (p_assign (v := .slice a3 (Flight.who l).length c4) rfl) rfl rfl rfl ?_
  refine o_pure (p_assign (v := .slice a5 (Flight.when_ l).length c6) rfl) rfl rfl rfl ?_
  refine o_pure (p_assign (v := .int .i64 (Flight.check l)) rfl) rfl rfl rfl ?_
  refine o_nil ?_
  refine q_then ?_
  refine c_seq ?_
  refine c_region ?_
  refine o_pure (p_move (v := .slice al l.length cl) rfl) rfl rfl rfl ?_
  refine o_pure (p_move (v := .int .i64 at_) rfl) rfl rfl rfl ?_
  refine o_callM rfl (active_ok l al cl at_) hf26 (fun w hw => (rd_base (i := 1) rfl hl) w hw) rfl (fun _ _ _ _ ha hA => SlO.agree ha hA) ?_
  rintro ⟨a9, c10⟩ S7
  refine o_pure (p_move (v := .tuple #[.slice a9 (Flight.active l at_).length c10, .int .i64 (Flight.activeErr l at_)]) rfl) rfl rfl rfl ?_
  refine o_pure (p_extract (vs := [.slice a9 (Flight.active l at_).length c10, .int .i64 (Flight.activeErr l at_)]) (v := .slice a9 (Flight.active l at_).length c10) rfl rfl) rfl rfl rfl ?_
  refine o_pure (p_extract (vs := [.slice a9 (Flight.active l at_).length c10, .int .i64 (Flight.activeErr l at_)]) (v := .int .i64 (Flight.activeErr l at_)) rfl rfl) rfl rfl rfl ?_
  refine o_pure (p_assign (v := .slice a9 (Flight.active l at_).length c10) rfl) rfl rfl rfl ?_
  refine o_pure (p_assign (v := .int .i64 (Flight.activeErr l at_)) rfl) rfl rfl rfl ?_
  refine o_nil ?_
  refine q_then ?_
  refine c_seq ?_
  refine c_seq ?_
  refine c_region ?_
  refine o_call0 (v := .bool true) rfl (crowdBegun_ok ) hf29 (fun _ _ => trivial) rfl ?_
  refine o_pure (p_not (b := true) rfl) rfl rfl rfl ?_
  refine o_nil ?_
  refine q_then ?_
  refine c_false rfl ?_
  refine c_skip ?_
  refine q_then ?_
  refine c_seq ?_
  refine c_seq ?_
  refine c_region ?_
  refine o_pure (p_move (v := .int .i64 (Flight.check l)) rfl) rfl rfl rfl ?_
  refine o_pure (p_ne (p := (Flight.check l)) (q := 0) rfl rfl) rfl rfl rfl ?_
  refine o_nil ?_
  refine q_then ?_
  refine c_cond (b := ((Flight.check l) != 0)) rfl (fun hc11 => ?_) (fun hc11 => ?_)
  · simp only [bne_iff_ne, ne_eq] at hc11
    refine c_seq ?_
    refine c_region ?_
    refine o_pure (p_move (v := .slice a3 (Flight.who l).length c4) rfl) rfl rfl rfl ?_
    refine o_pure (p_len_slice (len := (Flight.who l).length) rfl rfl Try.underlying38) rfl rfl rfl ?_
    refine o_pure (p_move (v := .slice a5 (Flight.when_ l).length c6) rfl) rfl rfl rfl ?_
    refine o_pure (p_len_slice (len := (Flight.when_ l).length) rfl rfl Try.underlying38) rfl rfl rfl ?_
    refine o_pure (p_add (p := ((Flight.who l).length : Int)) (q := ((Flight.when_ l).length : Int)) rfl rfl) rfl rfl rfl ?_
    refine o_pure (p_eq (p := (IntKind.i64.wrap (((Flight.who l).length : Int) + ((Flight.when_ l).length : Int)))) (q := 0) rfl rfl) rfl rfl rfl ?_
    refine o_pure (p_assign (v := .bool ((IntKind.i64.wrap (((Flight.who l).length : Int) + ((Flight.when_ l).length : Int))) == 0)) rfl) rfl rfl rfl ?_
    refine o_nil ?_
    refine q_then ?_
    refine c_ret ?_
    refine q_then_ret ?_
    refine q_end0 (v := .bool ((IntKind.i64.wrap (((Flight.who l).length : Int) + ((Flight.when_ l).length : Int))) == 0)) (rt1 rfl (r_tmp rfl)) (i := 2) rfl ?_
    first | rfl | (rw [Flight.who_nil (by assumption), Flight.when_nil (by assumption)]; rfl)
  · simp only [bne_eq_false_iff_eq] at hc11
    refine c_skip ?_
    refine q_then ?_
    refine c_seq ?_
    refine c_seq ?_
    refine c_region ?_
    refine o_pure (p_assign (v := .int .i64 0) rfl) rfl rfl rfl ?_
    refine o_nil ?_
    refine q_then ?_
    refine c_block ?_
    refine c_loop (St := Nat)
      (fun i => [(0, .slice al l.length cl), (5, .slice a3 (Flight.who l).length c4), (6, .slice a5 (Flight.when_ l).length c6), (8, .slice a9 (Flight.active l at_).length c10), (9, .int .i64 (Flight.activeErr l at_)), (10, .int .i64 (i : Int))])
      (fun i => [own tInt S7 a9 c10 (Flight.active l at_), ⟨S1, fun w => SlR tInt S1 w a3 c4 (Flight.who l) ∧ SlR tInt S1 w a5 c6 (Flight.when_ l)⟩, base w0])
      (fun i => 0 ≤ i)
      (fun i => (Flight.active l at_).length - i)
      0 ?_ (Sub.cons rfl (Sub.cons rfl (Sub.cons rfl (Sub.cons rfl (Sub.cons rfl (Sub.cons rfl (Sub.nil _))))))) (fun _ hw => hw) ?_
    · omega
    rintro i hI K hK12
    show SC Try.prog 177 w0 _ _ [(0, .slice al l.length cl), (5, .slice a3 (Flight.who l).length c4), (6, .slice a5 (Flight.when_ l).length c6), (8, .slice a9 (Flight.active l at_).length c10), (9, .int .i64 (Flight.activeErr l at_)), (10, .int .i64 (i : Int))] [own tInt S7 a9 c10 (Flight.active l at_), ⟨S1, fun w => SlR tInt S1 w a3 c4 (Flight.who l) ∧ SlR tInt S1 w a5 c6 (Flight.when_ l)⟩, base w0]
    refine c_seq ?_
    refine c_seq ?_
    refine c_region ?_
    refine o_pure (p_move (v := .int .i64 (i : Int)) rfl) rfl rfl rfl ?_
    refine o_pure (p_move (v := .slice a9 (Flight.active l at_).length c10) rfl) rfl rfl rfl ?_
    refine o_pure (p_len_slice (len := (Flight.active l at_).length) rfl rfl Try.underlying38) rfl rfl rfl ?_
    refine o_pure (p_lt (p := (i : Int)) (q := ((Flight.active l at_).length : Int)) rfl rfl) rfl rfl rfl ?_
    refine o_pure (p_move (v := .bool (decide ((i : Int) < ((Flight.active l at_).length : Int)))) rfl) rfl rfl rfl ?_
    refine o_and (p := 43) 3 ((Flight.activeErr l at_) == 0) ?_ ?_ ?_
    · intro hb13 hk
      simp only [decide_eq_true_eq] at hb13
      refine o_unguard 40 rfl rfl ?_
      refine o_pure (p_move (v := .int .i64 (Flight.activeErr l at_)) rfl) rfl rfl rfl ?_
      refine o_unguard 40 rfl rfl ?_
      refine o_pure (p_eq (p := (Flight.activeErr l at_)) (q := 0) rfl rfl) rfl rfl rfl ?_
      refine o_pure (p_pick_true (u := .bool ((Flight.activeErr l at_) == 0)) rfl rfl) rfl rfl rfl ?_
      exact o_sub (Sub.cons rfl (Sub.skip rfl (Sub.skip rfl (Sub.skip rfl (Sub.skip rfl (Sub.refl _)))))) hk
    · intro hb13 hk
      refine o_guard_no rfl 40 rfl rfl rfl rfl rfl ?_
      refine o_guard_no rfl 40 rfl rfl rfl rfl rfl ?_
      refine o_pure (p_pick_false (v := .bool false) rfl rfl) rfl rfl rfl ?_
      exact o_sub (Sub.cons rfl (Sub.skip rfl (Sub.skip rfl (Sub.skip rfl (Sub.skip rfl (Sub.refl _)))))) hk
    refine o_nil ?_
    refine q_then ?_
    refine c_cond (b := (decide ((i : Int) < ((Flight.active l at_).length : Int)) && ((Flight.activeErr l at_) == 0))) rfl (fun hc14 => ?_) (fun hc14 => ?_)
    · simp only [Bool.and_eq_true, decide_eq_true_eq, beq_iff_eq] at hc14
      have hch : Flight.check l = 0 := by assumption
      have h60 := Flight.check_len hch
      have hal := Flight.active_length l at_
      have hae : Flight.activeErr l at_ = 0 := hc14.2
      have hia : i < (Flight.active l at_).length := by omega
      obtain ⟨ja, hja, hj1, _⟩ := Flight.active_at hae hia
      refine c_skip ?_
      refine q_then ?_
      refine c_seq ?_
      refine c_block ?_
      refine c_seq ?_
      refine c_seq ?_
      refine c_region ?_
      refine o_pure (p_move (v := .slice a9 (Flight.active l at_).length c10) rfl) rfl rfl rfl ?_
      refine o_pure (p_move (v := .int .i64 (i : Int)) rfl) rfl rfl rfl ?_
      refine o_pure (p_indexAddr (L := (Flight.active l at_)) (T := tInt) (i := (i : Int)) rfl rfl (rd_own (i := 0) rfl) Try.underlying38 sz3 (by omega) (by omega)) rfl rfl rfl ?_
      refine o_pure (p_loadE1 (i := i) (T := tInt) (L := (Flight.active l at_)) (v := .int .i64 ((Flight.active l at_)[i])) rfl (rd_own (i := 0) rfl) (by first | assumption | omega) sh3 rfl) rfl rfl rfl ?_
      refine o_pure (p_lt (p := (Flight.active l at_)[i]) (q := 0) rfl rfl) rfl rfl rfl ?_
      refine o_pure (p_move (v := .bool (decide ((Flight.active l at_)[i] < 0))) rfl) rfl rfl rfl ?_
      refine o_or (p := 59) 8 (decide ((l.length : Int) ≤ (Flight.active l at_)[i])) ?_ ?_ ?_
      · intro hb15 hk
        simp only [decide_eq_false_iff_not, Int.not_lt] at hb15
        refine o_unguard 51 rfl rfl ?_
        refine o_pure (p_move (v := .slice a9 (Flight.active l at_).length c10) rfl) rfl rfl rfl ?_
        refine o_unguard 51 rfl rfl ?_
        refine o_pure (p_move (v := .int .i64 (i : Int)) rfl) rfl rfl rfl ?_
        refine o_unguard 51 rfl rfl ?_
        refine o_pure (p_indexAddr (L := (Flight.active l at_)) (T := tInt) (i := (i : Int)) rfl rfl (rd_own (i := 0) rfl) Try.underlying38 sz3 (by omega) (by omega)) rfl rfl rfl ?_
        refine o_unguard 51 rfl rfl ?_
        refine o_pure (p_loadE1 (i := i) (T := tInt) (L := (Flight.active l at_)) (v := .int .i64 ((Flight.active l at_)[i])) rfl (rd_own (i := 0) rfl) (by first | assumption | omega) sh3 rfl) rfl rfl rfl ?_
        refine o_unguard 51 rfl rfl ?_
        refine o_pure (p_move (v := .slice al l.length cl) rfl) rfl rfl rfl ?_
        refine o_unguard 51 rfl rfl ?_
        refine o_pure (p_len_slice (len := l.length) rfl rfl Try.underlying37) rfl rfl rfl ?_
        refine o_unguard 51 rfl rfl ?_
        refine o_pure (p_ge (p := (Flight.active l at_)[i]) (q := (l.length : Int)) rfl rfl) rfl rfl rfl ?_
        refine o_pure (p_pick_false (v := .bool (decide ((l.length : Int) ≤ (Flight.active l at_)[i]))) rfl rfl) rfl rfl rfl ?_
        exact o_sub (Sub.cons rfl (Sub.skip rfl (Sub.skip rfl (Sub.skip rfl (Sub.skip rfl (Sub.skip rfl (Sub.skip rfl (Sub.skip rfl (Sub.skip rfl (Sub.skip rfl (Sub.refl _))))))))))) hk
      · intro hb15 hk
        refine o_guard_no rfl 51 rfl rfl rfl rfl rfl ?_
        refine o_guard_no rfl 51 rfl rfl rfl rfl rfl ?_
        refine o_guard_no rfl 51 rfl rfl rfl rfl rfl ?_
        refine o_guard_no rfl 51 rfl rfl rfl rfl rfl ?_
        refine o_guard_no rfl 51 rfl rfl rfl rfl rfl ?_
        refine o_guard_no rfl 51 rfl rfl rfl rfl rfl ?_
        refine o_guard_no rfl 51 rfl rfl rfl rfl rfl ?_
        refine o_pure (p_pick_true (u := .bool true) rfl rfl) rfl rfl rfl ?_
        exact o_sub (Sub.cons rfl (Sub.skip rfl (Sub.skip rfl (Sub.skip rfl (Sub.skip rfl (Sub.skip rfl (Sub.skip rfl (Sub.skip rfl (Sub.skip rfl (Sub.skip rfl (Sub.refl _))))))))))) hk
      refine o_nil ?_
      refine q_then ?_
      refine c_cond (b := (decide ((Flight.active l at_)[i] < 0) || decide ((l.length : Int) ≤ (Flight.active l at_)[i]))) rfl (fun hc16 => ?_) (fun hc16 => ?_)
      · simp only [Bool.or_eq_true, decide_eq_true_eq] at hc16
        exfalso; omega
      · simp only [Bool.or_eq_false_iff, decide_eq_false_iff_not, Int.not_lt, Int.not_le] at hc16
        refine c_skip ?_
        refine q_then ?_
        refine c_seq ?_
        refine c_region ?_
        refine o_pure (p_assign (v := .int .i64 0) rfl) rfl rfl rfl ?_
        refine o_nil ?_
        refine q_then ?_
        refine c_block ?_
        refine c_loop (St := Nat)
          (fun k => [(0, .slice al l.length cl), (5, .slice a3 (Flight.who l).length c4), (6, .slice a5 (Flight.when_ l).length c6), (8, .slice a9 (Flight.active l at_).length c10), (9, .int .i64 (Flight.activeErr l at_)), (10, .int .i64 (i : Int)), (11, .int .i64 (k : Int))])
          (fun k => [own tInt S7 a9 c10 (Flight.active l at_), ⟨S1, fun w => SlR tInt S1 w a3 c4 (Flight.who l) ∧ SlR tInt S1 w a5 c6 (Flight.when_ l)⟩, base w0])
          (fun k => k ≤ i)
          (fun k => i - k)
          0 ?_ (Sub.cons rfl (Sub.cons rfl (Sub.cons rfl (Sub.cons rfl (Sub.cons rfl (Sub.cons rfl (Sub.cons rfl (Sub.nil _)))))))) (fun _ hw => hw) ?_
        · omega
        rintro k hI K hK17
        show SC Try.prog 177 w0 _ _ [(0, .slice al l.length cl), (5, .slice a3 (Flight.who l).length c4), (6, .slice a5 (Flight.when_ l).length c6), (8, .slice a9 (Flight.active l at_).length c10), (9, .int .i64 (Flight.activeErr l at_)), (10, .int .i64 (i : Int)), (11, .int .i64 (k : Int))] [own tInt S7 a9 c10 (Flight.active l at_), ⟨S1, fun w => SlR tInt S1 w a3 c4 (Flight.who l) ∧ SlR tInt S1 w a5 c6 (Flight.when_ l)⟩, base w0]
        refine c_seq ?_
        refine c_seq ?_
        refine c_region ?_
        refine o_pure (p_move (v := .int .i64 (k : Int)) rfl) rfl rfl rfl ?_
        refine o_pure (p_move (v := .int .i64 (i : Int)) rfl) rfl rfl rfl ?_
        refine o_pure (p_lt (p := (k : Int)) (q := (i : Int)) rfl rfl) rfl rfl rfl ?_
        refine o_nil ?_
        refine q_then ?_
        refine c_cond (b := decide ((k : Int) < (i : Int))) rfl (fun hc18 => ?_) (fun hc18 => ?_)
        · simp only [decide_eq_true_eq] at hc18
          have hka : k < (Flight.active l at_).length := by omega
          obtain ⟨ka, hka1, hk1, _⟩ := Flight.active_at hae hka
          refine c_skip ?_
          refine q_then ?_
          refine c_seq ?_
          refine c_block ?_
          refine c_seq ?_
          refine c_draw hmix (by kernel_rfl) ?_
          refine w_pure (p_move (v := .slice al l.length cl) rfl) rfl rfl rfl ?_
          refine w_pure (p_move (v := .slice a9 (Flight.active l at_).length c10) rfl) rfl rfl rfl ?_
          refine w_pure (p_move (v := .int .i64 (i : Int)) rfl) rfl rfl rfl ?_
          refine w_pure (p_indexAddr (L := (Flight.active l at_)) (T := tInt) (i := (i : Int)) rfl rfl (rd_own (i := 0) rfl) Try.underlying38 sz3 (by omega) (by omega)) rfl rfl rfl ?_
          refine w_pure (p_loadE1 (i := i) (T := tInt) (L := (Flight.active l at_)) (v := .int .i64 ((Flight.active l at_)[i])) rfl (rd_own (i := 0) rfl) (by first | assumption | omega) sh3 rfl) rfl rfl rfl ?_
          refine w_pure (p_indexAddr (L := l) (T := tCall) (i := (Flight.active l at_)[i]) rfl rfl (rd_base (i := 2) rfl hl) Try.underlying37 sz47 (by omega) (by omega)) rfl rfl rfl ?_
          refine w_pure (p_fieldAddrE rfl fo47_0) rfl rfl rfl ?_
          refine w_pure (p_loadF (i := ((Flight.active l at_)[i]).toNat) (j := 0) (T := tCall) (L := l) (v := .int .i64 ((l[((Flight.active l at_)[i]).toNat]).key)) rfl (rd_base (i := 2) rfl hl) (by first | assumption | omega) sh3 rfl) rfl rfl rfl ?_
          refine w_pure (p_move (v := .slice al l.length cl) rfl) rfl rfl rfl ?_
          refine w_pure (p_move (v := .slice a9 (Flight.active l at_).length c10) rfl) rfl rfl rfl ?_
          refine w_pure (p_move (v := .int .i64 (k : Int)) rfl) rfl rfl rfl ?_
          refine w_pure (p_indexAddr (L := (Flight.active l at_)) (T := tInt) (i := (k : Int)) rfl rfl (rd_own (i := 0) rfl) Try.underlying38 sz3 (by omega) (by omega)) rfl rfl rfl ?_
          refine w_pure (p_loadE1 (i := k) (T := tInt) (L := (Flight.active l at_)) (v := .int .i64 ((Flight.active l at_)[k])) rfl (rd_own (i := 0) rfl) (by first | assumption | omega) sh3 rfl) rfl rfl rfl ?_
          refine w_pure (p_indexAddr (L := l) (T := tCall) (i := (Flight.active l at_)[k]) rfl rfl (rd_base (i := 2) rfl hl) Try.underlying37 sz47 (by omega) (by omega)) rfl rfl rfl ?_
          refine w_pure (p_fieldAddrE rfl fo47_0) rfl rfl rfl ?_
          refine w_pure (p_loadF (i := ((Flight.active l at_)[k]).toNat) (j := 0) (T := tCall) (L := l) (v := .int .i64 ((l[((Flight.active l at_)[k]).toNat]).key)) rfl (rd_base (i := 2) rfl hl) (by first | assumption | omega) sh3 rfl) rfl rfl rfl ?_
          refine w_pure (p_eq (p := (l[((Flight.active l at_)[i]).toNat]).key) (q := (l[((Flight.active l at_)[k]).toNat]).key) rfl rfl) rfl rfl rfl ?_
          refine w_nil ?_
          refine q_then ?_
          refine c_cond (b := ((l[((Flight.active l at_)[i]).toNat]).key == (l[((Flight.active l at_)[k]).toNat]).key)) rfl (fun hc19 => ?_) (fun hc19 => ?_)
          · simp only [beq_iff_eq] at hc19
            exact absurd hc19 (Flight.active_keys hae (by omega) hia _ _)
          · simp only [beq_eq_false_iff_ne, ne_eq] at hc19
            refine c_skip ?_
            refine q_block_normal (q_then ?_)
            refine c_region ?_
            refine o_pure (p_move (v := .int .i64 (k : Int)) rfl) rfl rfl rfl ?_
            refine o_pure (p_addb (p := (k : Int)) (q := 1) rfl rfl (by omega)) rfl rfl rfl ?_
            refine o_pure (p_assign (v := .int .i64 ((k : Int) + 1)) rfl) rfl rfl rfl ?_
            refine o_nil ?_
            refine q_round hK17 (k + 1) ?_ ?_ ?_ ?_
            · clear hK17
              omega
            · (try dsimp only); omega
            · exact Sub.cons rfl (Sub.cons rfl (Sub.cons rfl (Sub.cons rfl (Sub.cons rfl (Sub.cons rfl (Sub.cons rfl (Sub.nil _)))))))
            · exact fun _ hw => HeapIs.drop hw (List.Sublist.refl _)
        · simp only [decide_eq_false_iff_not, Int.not_lt] at hc18
          refine c_exit ?_
          refine q_then_exit (q_then_exit (q_block_exit (q_block_normal (q_then ?_))))
          refine c_region ?_
          refine o_pure (p_move (v := .int .i64 (i : Int)) rfl) rfl rfl rfl ?_
          refine o_pure (p_addb (p := (i : Int)) (q := 1) rfl rfl (by omega)) rfl rfl rfl ?_
          refine o_pure (p_assign (v := .int .i64 ((i : Int) + 1)) rfl) rfl rfl rfl ?_
          refine o_nil ?_
          refine q_round hK12 (i + 1) ?_ ?_ ?_ ?_
          · clear hK12
            omega
          · (try dsimp only); omega
          · exact Sub.cons rfl (Sub.cons rfl (Sub.cons rfl (Sub.cons rfl (Sub.cons rfl (Sub.cons rfl (Sub.nil _))))))
          · exact fun _ hw => HeapIs.drop hw (List.Sublist.refl _)
    · simp only [Bool.and_eq_false_iff, decide_eq_false_iff_not, Int.not_lt, beq_eq_false_iff_ne, ne_eq] at hc14
      refine c_exit ?_
      refine q_then_exit (q_then_exit (q_block_exit (q_then ?_)))
      refine c_seq ?_
      refine c_seq ?_
      refine c_region ?_
      refine o_pure (p_move (v := .slice a3 (Flight.who l).length c4) rfl) rfl rfl rfl ?_
      refine o_pure (p_len_slice (len := (Flight.who l).length) rfl rfl Try.underlying38) rfl rfl rfl ?_
      refine o_pure (p_move (v := .slice al l.length cl) rfl) rfl rfl rfl ?_
      refine o_pure (p_len_slice (len := l.length) rfl rfl Try.underlying37) rfl rfl rfl ?_
      refine o_pure (p_ne (p := ((Flight.who l).length : Int)) (q := (l.length : Int)) rfl rfl) rfl rfl rfl ?_
      refine o_pure (p_move (v := .bool (((Flight.who l).length : Int) != (l.length : Int))) rfl) rfl rfl rfl ?_
      refine o_or (p := 93) 6 (((Flight.when_ l).length : Int) != (l.length : Int)) ?_ ?_ ?_
      · intro hb20 hk
        simp only [bne_eq_false_iff_eq] at hb20
        refine o_unguard 87 rfl rfl ?_
        refine o_pure (p_move (v := .slice a5 (Flight.when_ l).length c6) rfl) rfl rfl rfl ?_
        refine o_unguard 87 rfl rfl ?_
        refine o_pure (p_len_slice (len := (Flight.when_ l).length) rfl rfl Try.underlying38) rfl rfl rfl ?_
        refine o_unguard 87 rfl rfl ?_
        refine o_pure (p_move (v := .slice al l.length cl) rfl) rfl rfl rfl ?_
        refine o_unguard 87 rfl rfl ?_
        refine o_pure (p_len_slice (len := l.length) rfl rfl Try.underlying37) rfl rfl rfl ?_
        refine o_unguard 87 rfl rfl ?_
        refine o_pure (p_ne (p := ((Flight.when_ l).length : Int)) (q := (l.length : Int)) rfl rfl) rfl rfl rfl ?_
        refine o_pure (p_pick_false (v := .bool (((Flight.when_ l).length : Int) != (l.length : Int))) rfl rfl) rfl rfl rfl ?_
        exact o_sub (Sub.cons rfl (Sub.skip rfl (Sub.skip rfl (Sub.skip rfl (Sub.skip rfl (Sub.skip rfl (Sub.skip rfl (Sub.skip rfl (Sub.refl _))))))))) hk
      · intro hb20 hk
        refine o_guard_no rfl 87 rfl rfl rfl rfl rfl ?_
        refine o_guard_no rfl 87 rfl rfl rfl rfl rfl ?_
        refine o_guard_no rfl 87 rfl rfl rfl rfl rfl ?_
        refine o_guard_no rfl 87 rfl rfl rfl rfl rfl ?_
        refine o_guard_no rfl 87 rfl rfl rfl rfl rfl ?_
        refine o_pure (p_pick_true (u := .bool true) rfl rfl) rfl rfl rfl ?_
        exact o_sub (Sub.cons rfl (Sub.skip rfl (Sub.skip rfl (Sub.skip rfl (Sub.skip rfl (Sub.skip rfl (Sub.skip rfl (Sub.skip rfl (Sub.refl _))))))))) hk
      refine o_nil ?_
      refine q_then ?_
      refine c_cond (b := ((((Flight.who l).length : Int) != (l.length : Int)) || (((Flight.when_ l).length : Int) != (l.length : Int)))) rfl (fun hc21 => ?_) (fun hc21 => ?_)
      · simp only [Bool.or_eq_true, bne_iff_ne, ne_eq] at hc21
        exfalso; have h1 := Flight.who_length (l := l) (by assumption); have h2 := Flight.when_length (l := l) (by assumption); omega
      · simp only [Bool.or_eq_false_iff, bne_eq_false_iff_eq] at hc21
        refine c_skip ?_
        refine q_then ?_
        refine c_seq ?_
        refine c_seq ?_
        refine c_region ?_
        refine o_pure (p_assign (v := .int .i64 0) rfl) rfl rfl rfl ?_
        refine o_nil ?_
        refine q_then ?_
        refine c_block ?_
        refine c_loop (St := Nat)
          (fun i => [(0, .slice al l.length cl), (5, .slice a3 (Flight.who l).length c4), (6, .slice a5 (Flight.when_ l).length c6), (12, .int .i64 (i : Int))])
          (fun i => [own tInt S7 a9 c10 (Flight.active l at_), ⟨S1, fun w => SlR tInt S1 w a3 c4 (Flight.who l) ∧ SlR tInt S1 w a5 c6 (Flight.when_ l)⟩, base w0])
          (fun i => i ≤ l.length)
          (fun i => l.length - i)
          0 ?_ (Sub.cons rfl (Sub.cons rfl (Sub.cons rfl (Sub.cons rfl (Sub.nil _))))) (fun _ hw => hw) ?_
        · omega
        rintro i hI K hK22
        show SC Try.prog 177 w0 _ _ [(0, .slice al l.length cl), (5, .slice a3 (Flight.who l).length c4), (6, .slice a5 (Flight.when_ l).length c6), (12, .int .i64 (i : Int))] [own tInt S7 a9 c10 (Flight.active l at_), ⟨S1, fun w => SlR tInt S1 w a3 c4 (Flight.who l) ∧ SlR tInt S1 w a5 c6 (Flight.when_ l)⟩, base w0]
        refine c_seq ?_
        refine c_seq ?_
        refine c_region ?_
        refine o_pure (p_move (v := .int .i64 (i : Int)) rfl) rfl rfl rfl ?_
        refine o_pure (p_move (v := .slice al l.length cl) rfl) rfl rfl rfl ?_
        refine o_pure (p_len_slice (len := l.length) rfl rfl Try.underlying37) rfl rfl rfl ?_
        refine o_pure (p_lt (p := (i : Int)) (q := (l.length : Int)) rfl rfl) rfl rfl rfl ?_
        refine o_nil ?_
        refine q_then ?_
        refine c_cond (b := decide ((i : Int) < (l.length : Int))) rfl (fun hc23 => ?_) (fun hc23 => ?_)
        · simp only [decide_eq_true_eq] at hc23
          have hch : Flight.check l = 0 := by assumption
          have h60 := Flight.check_len hch
          have hi2 : i < l.length := by omega
          have hwl := Flight.who_length hch
          have hwl2 := Flight.when_length hch
          obtain ⟨j, hj0, hj1, hj2, hj3, hj4, hj5, hj6, hj7, hj8, hj9, hj10⟩ := Flight.each3 hch hi2
          have hw1 := hj1 (by omega)
          have hw2 := hj2 (by omega)
          have hw3 := hj3 (by omega)
          have hx : ((Flight.who l)[i]).toNat = j := by rw [hw1]; exact Int.toNat_natCast j
          refine c_skip ?_
          refine q_then ?_
          refine c_seq ?_
          refine c_block ?_
          refine c_seq ?_
          refine c_seq ?_
          refine c_region ?_
          refine o_pure (p_move (v := .slice a3 (Flight.who l).length c4) rfl) rfl rfl rfl ?_
          refine o_pure (p_move (v := .int .i64 (i : Int)) rfl) rfl rfl rfl ?_
          refine o_pure (p_indexAddr (L := (Flight.who l)) (T := tInt) (i := (i : Int)) rfl rfl (rd_ent (i := 1) rfl (fun w h => h.1)) Try.underlying38 sz3 (by omega) (by omega)) rfl rfl rfl ?_
          refine o_pure (p_loadE1 (i := i) (T := tInt) (L := (Flight.who l)) (v := .int .i64 ((Flight.who l)[i])) rfl (rd_ent (i := 1) rfl (fun w h => h.1)) (by first | assumption | omega) sh3 rfl) rfl rfl rfl ?_
          refine o_pure (p_lt (p := (Flight.who l)[i]) (q := 0) rfl rfl) rfl rfl rfl ?_
          refine o_pure (p_move (v := .bool (decide ((Flight.who l)[i] < 0))) rfl) rfl rfl rfl ?_
          refine o_or (p := 112) 7 (decide ((i : Int) < (Flight.who l)[i])) ?_ ?_ ?_
          · intro hb24 hk
            simp only [decide_eq_false_iff_not, Int.not_lt] at hb24
            refine o_unguard 105 rfl rfl ?_
            refine o_pure (p_move (v := .slice a3 (Flight.who l).length c4) rfl) rfl rfl rfl ?_
            refine o_unguard 105 rfl rfl ?_
            refine o_pure (p_move (v := .int .i64 (i : Int)) rfl) rfl rfl rfl ?_
            refine o_unguard 105 rfl rfl ?_
            refine o_pure (p_indexAddr (L := (Flight.who l)) (T := tInt) (i := (i : Int)) rfl rfl (rd_ent (i := 1) rfl (fun w h => h.1)) Try.underlying38 sz3 (by omega) (by omega)) rfl rfl rfl ?_
            refine o_unguard 105 rfl rfl ?_
            refine o_pure (p_loadE1 (i := i) (T := tInt) (L := (Flight.who l)) (v := .int .i64 ((Flight.who l)[i])) rfl (rd_ent (i := 1) rfl (fun w h => h.1)) (by first | assumption | omega) sh3 rfl) rfl rfl rfl ?_
            refine o_unguard 105 rfl rfl ?_
            refine o_pure (p_move (v := .int .i64 (i : Int)) rfl) rfl rfl rfl ?_
            refine o_unguard 105 rfl rfl ?_
            refine o_pure (p_gt (p := (Flight.who l)[i]) (q := (i : Int)) rfl rfl) rfl rfl rfl ?_
            refine o_pure (p_pick_false (v := .bool (decide ((i : Int) < (Flight.who l)[i]))) rfl rfl) rfl rfl rfl ?_
            exact o_sub (Sub.cons rfl (Sub.skip rfl (Sub.skip rfl (Sub.skip rfl (Sub.skip rfl (Sub.skip rfl (Sub.skip rfl (Sub.skip rfl (Sub.skip rfl (Sub.refl _)))))))))) hk
          · intro hb24 hk
            refine o_guard_no rfl 105 rfl rfl rfl rfl rfl ?_
            refine o_guard_no rfl 105 rfl rfl rfl rfl rfl ?_
            refine o_guard_no rfl 105 rfl rfl rfl rfl rfl ?_
            refine o_guard_no rfl 105 rfl rfl rfl rfl rfl ?_
            refine o_guard_no rfl 105 rfl rfl rfl rfl rfl ?_
            refine o_guard_no rfl 105 rfl rfl rfl rfl rfl ?_
            refine o_pure (p_pick_true (u := .bool true) rfl rfl) rfl rfl rfl ?_
            exact o_sub (Sub.cons rfl (Sub.skip rfl (Sub.skip rfl (Sub.skip rfl (Sub.skip rfl (Sub.skip rfl (Sub.skip rfl (Sub.skip rfl (Sub.skip rfl (Sub.refl _)))))))))) hk
          refine o_nil ?_
          refine q_then ?_
          refine c_cond (b := (decide ((Flight.who l)[i] < 0) || decide ((i : Int) < (Flight.who l)[i]))) rfl (fun hc25 => ?_) (fun hc25 => ?_)
          · simp only [Bool.or_eq_true, decide_eq_true_eq] at hc25
            exfalso; omega
          · simp only [Bool.or_eq_false_iff, decide_eq_false_iff_not, Int.not_lt] at hc25
            refine c_skip ?_
            refine q_then ?_
            refine c_seq ?_
            refine c_region ?_
            refine o_pure (p_move (v := .slice al l.length cl) rfl) rfl rfl rfl ?_
            refine o_pure (p_move (v := .slice a3 (Flight.who l).length c4) rfl) rfl rfl rfl ?_
            refine o_pure (p_move (v := .int .i64 (i : Int)) rfl) rfl rfl rfl ?_
            refine o_pure (p_indexAddr (L := (Flight.who l)) (T := tInt) (i := (i : Int)) rfl rfl (rd_ent (i := 1) rfl (fun w h => h.1)) Try.underlying38 sz3 (by omega) (by omega)) rfl rfl rfl ?_
            refine o_pure (p_loadE1 (i := i) (T := tInt) (L := (Flight.who l)) (v := .int .i64 ((Flight.who l)[i])) rfl (rd_ent (i := 1) rfl (fun w h => h.1)) (by first | assumption | omega) sh3 rfl) rfl rfl rfl ?_
            refine o_pure (p_indexAddr (L := l) (T := tCall) (i := (Flight.who l)[i]) rfl rfl (rd_base (i := 2) rfl hl) Try.underlying37 sz47 (by omega) (by omega)) rfl rfl rfl ?_
            refine o_pure (p_loadEn (i := ((Flight.who l)[i]).toNat) (T := tCall) (L := l) (vs := [.int .i64 ((l[((Flight.who l)[i]).toNat]).key), .int .i64 ((l[((Flight.who l)[i]).toNat]).at_), .int .i64 ((l[((Flight.who l)[i]).toNat]).long)]) rfl (rd_base (i := 2) rfl hl) (by first | assumption | omega) sh47 rfl) rfl rfl rfl ?_
            refine o_alloc ze47 rfl (fun B26 => ?_)
            refine o_storeN (i := 0) (vs := [.int .i64 ((l[((Flight.who l)[i]).toNat]).key), .int .i64 ((l[((Flight.who l)[i]).toNat]).at_), .int .i64 ((l[((Flight.who l)[i]).toNat]).long)]) (cs' := [.int .i64 ((l[((Flight.who l)[i]).toNat]).key), .int .i64 ((l[((Flight.who l)[i]).toNat]).at_), .int .i64 ((l[((Flight.who l)[i]).toNat]).long)]) rfl rfl rfl sz47 rfl rfl rfl rfl ?_
            refine o_nil ?_
            refine q_then ?_
            refine c_seq ?_
            refine c_draw hmix (by kernel_rfl) ?_
            refine w_pure (p_fieldAddr (B := B26) (j := 0) (j' := 0) rfl fo47_0 rfl) rfl rfl rfl ?_
            refine w_pure (p_load (i := 0) (v := .int .i64 ((l[((Flight.who l)[i]).toNat]).key)) rfl rfl sh3 rfl) rfl rfl rfl ?_
            refine w_pure (p_move (v := .slice al l.length cl) rfl) rfl rfl rfl ?_
            refine w_pure (p_move (v := .int .i64 (i : Int)) rfl) rfl rfl rfl ?_
            refine w_pure (p_indexAddr (L := l) (T := tCall) (i := (i : Int)) rfl rfl (rd_base (i := 3) rfl hl) Try.underlying37 sz47 (by omega) (by omega)) rfl rfl rfl ?_
            refine w_pure (p_fieldAddrE rfl fo47_0) rfl rfl rfl ?_
            refine w_pure (p_loadF (i := i) (j := 0) (T := tCall) (L := l) (v := .int .i64 ((l[i]).key)) rfl (rd_base (i := 3) rfl hl) (by first | assumption | omega) sh3 rfl) rfl rfl rfl ?_
            refine w_pure (p_ne (p := (l[((Flight.who l)[i]).toNat]).key) (q := (l[i]).key) rfl rfl) rfl rfl rfl ?_
            refine w_pure (p_move (v := .bool ((l[((Flight.who l)[i]).toNat]).key != (l[i]).key)) rfl) rfl rfl rfl ?_
            refine w_or (p := 135) 7 (decide ((i : Int) < (Flight.who l)[i])) ?_ ?_ ?_
            · intro hb27 hk
              simp only [bne_eq_false_iff_eq] at hb27
              refine w_unguard 128 rfl rfl ?_
              refine w_pure (p_move (v := .slice a3 (Flight.who l).length c4) rfl) rfl rfl rfl ?_
              refine w_unguard 128 rfl rfl ?_
              refine w_pure (p_move (v := .int .i64 (i : Int)) rfl) rfl rfl rfl ?_
              refine w_unguard 128 rfl rfl ?_
              refine w_pure (p_indexAddr (L := (Flight.who l)) (T := tInt) (i := (i : Int)) rfl rfl (rd_ent (i := 2) rfl (fun w h => h.1)) Try.underlying38 sz3 (by omega) (by omega)) rfl rfl rfl ?_
              refine w_unguard 128 rfl rfl ?_
              refine w_pure (p_loadE1 (i := i) (T := tInt) (L := (Flight.who l)) (v := .int .i64 ((Flight.who l)[i])) rfl (rd_ent (i := 2) rfl (fun w h => h.1)) (by first | assumption | omega) sh3 rfl) rfl rfl rfl ?_
              refine w_unguard 128 rfl rfl ?_
              refine w_pure (p_move (v := .int .i64 (i : Int)) rfl) rfl rfl rfl ?_
              refine w_unguard 128 rfl rfl ?_
              refine w_pure (p_gt (p := (Flight.who l)[i]) (q := (i : Int)) rfl rfl) rfl rfl rfl ?_
              refine w_pure (p_pick_false (v := .bool (decide ((i : Int) < (Flight.who l)[i]))) rfl rfl) rfl rfl rfl ?_
              exact w_sub (Sub.cons rfl (Sub.skip rfl (Sub.skip rfl (Sub.skip rfl (Sub.skip rfl (Sub.skip rfl (Sub.skip rfl (Sub.skip rfl (Sub.skip rfl (Sub.refl _)))))))))) hk
            · intro hb27 hk
              refine w_guard_no rfl 128 rfl rfl rfl rfl rfl ?_
              refine w_guard_no rfl 128 rfl rfl rfl rfl rfl ?_
              refine w_guard_no rfl 128 rfl rfl rfl rfl rfl ?_
              refine w_guard_no rfl 128 rfl rfl rfl rfl rfl ?_
              refine w_guard_no rfl 128 rfl rfl rfl rfl rfl ?_
              refine w_guard_no rfl 128 rfl rfl rfl rfl rfl ?_
              refine w_pure (p_pick_true (u := .bool true) rfl rfl) rfl rfl rfl ?_
              exact w_sub (Sub.cons rfl (Sub.skip rfl (Sub.skip rfl (Sub.skip rfl (Sub.skip rfl (Sub.skip rfl (Sub.skip rfl (Sub.skip rfl (Sub.skip rfl (Sub.refl _)))))))))) hk
            refine w_pure (p_move (v := .bool (((l[((Flight.who l)[i]).toNat]).key != (l[i]).key) || decide ((i : Int) < (Flight.who l)[i]))) rfl) rfl rfl rfl ?_
            refine w_or (p := 147) 11 (decide ((Flight.when_ l)[i] ≤ (l[i]).at_)) ?_ ?_ ?_
            · intro hb28 hk
              simp only [Bool.or_eq_false_iff, bne_eq_false_iff_eq, decide_eq_false_iff_not, Int.not_lt] at hb28
              refine w_unguard 136 rfl rfl ?_
              refine w_pure (p_move (v := .slice a5 (Flight.when_ l).length c6) rfl) rfl rfl rfl ?_
              refine w_unguard 136 rfl rfl ?_
              refine w_pure (p_move (v := .int .i64 (i : Int)) rfl) rfl rfl rfl ?_
              refine w_unguard 136 rfl rfl ?_
              refine w_pure (p_indexAddr (L := (Flight.when_ l)) (T := tInt) (i := (i : Int)) rfl rfl (rd_ent (i := 2) rfl (fun w h => h.2)) Try.underlying38 sz3 (by omega) (by omega)) rfl rfl rfl ?_
              refine w_unguard 136 rfl rfl ?_
              refine w_pure (p_loadE1 (i := i) (T := tInt) (L := (Flight.when_ l)) (v := .int .i64 ((Flight.when_ l)[i])) rfl (rd_ent (i := 2) rfl (fun w h => h.2)) (by first | assumption | omega) sh3 rfl) rfl rfl rfl ?_
              refine w_unguard 136 rfl rfl ?_
              refine w_pure (p_move (v := .slice al l.length cl) rfl) rfl rfl rfl ?_
              refine w_unguard 136 rfl rfl ?_
              refine w_pure (p_move (v := .int .i64 (i : Int)) rfl) rfl rfl rfl ?_
              refine w_unguard 136 rfl rfl ?_
              refine w_pure (p_indexAddr (L := l) (T := tCall) (i := (i : Int)) rfl rfl (rd_base (i := 3) rfl hl) Try.underlying37 sz47 (by omega) (by omega)) rfl rfl rfl ?_
              refine w_unguard 136 rfl rfl ?_
              refine w_pure (p_fieldAddrE rfl fo47_1) rfl rfl rfl ?_
              refine w_unguard 136 rfl rfl ?_
              refine w_pure (p_loadF (i := i) (j := 1) (T := tCall) (L := l) (v := .int .i64 ((l[i]).at_)) rfl (rd_base (i := 3) rfl hl) (by first | assumption | omega) sh3 rfl) rfl rfl rfl ?_
              refine w_unguard 136 rfl rfl ?_
              refine w_pure (p_le (p := (Flight.when_ l)[i]) (q := (l[i]).at_) rfl rfl) rfl rfl rfl ?_
              refine w_pure (p_pick_false (v := .bool (decide ((Flight.when_ l)[i] ≤ (l[i]).at_))) rfl rfl) rfl rfl rfl ?_
              exact w_sub (Sub.cons rfl (Sub.skip rfl (Sub.skip rfl (Sub.skip rfl (Sub.skip rfl (Sub.skip rfl (Sub.skip rfl (Sub.skip rfl (Sub.skip rfl (Sub.skip rfl (Sub.skip rfl (Sub.skip rfl (Sub.skip rfl (Sub.refl _)))))))))))))) hk
            · intro hb28 hk
              refine w_guard_no rfl 136 rfl rfl rfl rfl rfl ?_
              refine w_guard_no rfl 136 rfl rfl rfl rfl rfl ?_
              refine w_guard_no rfl 136 rfl rfl rfl rfl rfl ?_
              refine w_guard_no rfl 136 rfl rfl rfl rfl rfl ?_
              refine w_guard_no rfl 136 rfl rfl rfl rfl rfl ?_
              refine w_guard_no rfl 136 rfl rfl rfl rfl rfl ?_
              refine w_guard_no rfl 136 rfl rfl rfl rfl rfl ?_
              refine w_guard_no rfl 136 rfl rfl rfl rfl rfl ?_
              refine w_guard_no rfl 136 rfl rfl rfl rfl rfl ?_
              refine w_guard_no rfl 136 rfl rfl rfl rfl rfl ?_
              refine w_pure (p_pick_true (u := .bool true) rfl rfl) rfl rfl rfl ?_
              exact w_sub (Sub.cons rfl (Sub.skip rfl (Sub.skip rfl (Sub.skip rfl (Sub.skip rfl (Sub.skip rfl (Sub.skip rfl (Sub.skip rfl (Sub.skip rfl (Sub.skip rfl (Sub.skip rfl (Sub.skip rfl (Sub.skip rfl (Sub.refl _)))))))))))))) hk
            refine w_pure (p_move (v := .bool ((((l[((Flight.who l)[i]).toNat]).key != (l[i]).key) || decide ((i : Int) < (Flight.who l)[i])) || decide ((Flight.when_ l)[i] ≤ (l[i]).at_))) rfl) rfl rfl rfl ?_
            refine w_or (p := 162) 14 (decide ((l[((Flight.who l)[i]).toNat]).long < (IntKind.i64.wrap ((Flight.when_ l)[i] - (l[i]).at_)))) ?_ ?_ ?_
            · intro hb29 hk
              simp only [Bool.or_eq_false_iff, bne_eq_false_iff_eq, decide_eq_false_iff_not, Int.not_lt, Int.not_le] at hb29
              refine w_unguard 148 rfl rfl ?_
              refine w_pure (p_move (v := .slice a5 (Flight.when_ l).length c6) rfl) rfl rfl rfl ?_
              refine w_unguard 148 rfl rfl ?_
              refine w_pure (p_move (v := .int .i64 (i : Int)) rfl) rfl rfl rfl ?_
              refine w_unguard 148 rfl rfl ?_
              refine w_pure (p_indexAddr (L := (Flight.when_ l)) (T := tInt) (i := (i : Int)) rfl rfl (rd_ent (i := 2) rfl (fun w h => h.2)) Try.underlying38 sz3 (by omega) (by omega)) rfl rfl rfl ?_
              refine w_unguard 148 rfl rfl ?_
              refine w_pure (p_loadE1 (i := i) (T := tInt) (L := (Flight.when_ l)) (v := .int .i64 ((Flight.when_ l)[i])) rfl (rd_ent (i := 2) rfl (fun w h => h.2)) (by first | assumption | omega) sh3 rfl) rfl rfl rfl ?_
              refine w_unguard 148 rfl rfl ?_
              refine w_pure (p_move (v := .slice al l.length cl) rfl) rfl rfl rfl ?_
              refine w_unguard 148 rfl rfl ?_
              refine w_pure (p_move (v := .int .i64 (i : Int)) rfl) rfl rfl rfl ?_
              refine w_unguard 148 rfl rfl ?_
              refine w_pure (p_indexAddr (L := l) (T := tCall) (i := (i : Int)) rfl rfl (rd_base (i := 3) rfl hl) Try.underlying37 sz47 (by omega) (by omega)) rfl rfl rfl ?_
              refine w_unguard 148 rfl rfl ?_
              refine w_pure (p_fieldAddrE rfl fo47_1) rfl rfl rfl ?_
              refine w_unguard 148 rfl rfl ?_
              refine w_pure (p_loadF (i := i) (j := 1) (T := tCall) (L := l) (v := .int .i64 ((l[i]).at_)) rfl (rd_base (i := 3) rfl hl) (by first | assumption | omega) sh3 rfl) rfl rfl rfl ?_
              refine w_unguard 148 rfl rfl ?_
              refine w_pure (p_sub (p := (Flight.when_ l)[i]) (q := (l[i]).at_) rfl rfl) rfl rfl rfl ?_
              refine w_unguard 148 rfl rfl ?_
              refine w_pure (p_fieldAddr (B := B26) (j := 0) (j' := 2) rfl fo47_2 rfl) rfl rfl rfl ?_
              refine w_unguard 148 rfl rfl ?_
              refine w_pure (p_load (i := 0) (v := .int .i64 ((l[((Flight.who l)[i]).toNat]).long)) rfl rfl sh3 rfl) rfl rfl rfl ?_
              refine w_unguard 148 rfl rfl ?_
              refine w_pure (p_gt (p := (IntKind.i64.wrap ((Flight.when_ l)[i] - (l[i]).at_))) (q := (l[((Flight.who l)[i]).toNat]).long) rfl rfl) rfl rfl rfl ?_
              refine w_pure (p_pick_false (v := .bool (decide ((l[((Flight.who l)[i]).toNat]).long < (IntKind.i64.wrap ((Flight.when_ l)[i] - (l[i]).at_))))) rfl rfl) rfl rfl rfl ?_
              exact w_sub (Sub.cons rfl (Sub.skip rfl (Sub.skip rfl (Sub.skip rfl (Sub.skip rfl (Sub.skip rfl (Sub.skip rfl (Sub.skip rfl (Sub.skip rfl (Sub.skip rfl (Sub.skip rfl (Sub.skip rfl (Sub.skip rfl (Sub.skip rfl (Sub.skip rfl (Sub.skip rfl (Sub.refl _))))))))))))))))) hk
            · intro hb29 hk
              refine w_guard_no rfl 148 rfl rfl rfl rfl rfl ?_
              refine w_guard_no rfl 148 rfl rfl rfl rfl rfl ?_
              refine w_guard_no rfl 148 rfl rfl rfl rfl rfl ?_
              refine w_guard_no rfl 148 rfl rfl rfl rfl rfl ?_
              refine w_guard_no rfl 148 rfl rfl rfl rfl rfl ?_
              refine w_guard_no rfl 148 rfl rfl rfl rfl rfl ?_
              refine w_guard_no rfl 148 rfl rfl rfl rfl rfl ?_
              refine w_guard_no rfl 148 rfl rfl rfl rfl rfl ?_
              refine w_guard_no rfl 148 rfl rfl rfl rfl rfl ?_
              refine w_guard_no rfl 148 rfl rfl rfl rfl rfl ?_
              refine w_guard_no rfl 148 rfl rfl rfl rfl rfl ?_
              refine w_guard_no rfl 148 rfl rfl rfl rfl rfl ?_
              refine w_guard_no rfl 148 rfl rfl rfl rfl rfl ?_
              refine w_pure (p_pick_true (u := .bool true) rfl rfl) rfl rfl rfl ?_
              exact w_sub (Sub.cons rfl (Sub.skip rfl (Sub.skip rfl (Sub.skip rfl (Sub.skip rfl (Sub.skip rfl (Sub.skip rfl (Sub.skip rfl (Sub.skip rfl (Sub.skip rfl (Sub.skip rfl (Sub.skip rfl (Sub.skip rfl (Sub.skip rfl (Sub.skip rfl (Sub.skip rfl (Sub.refl _))))))))))))))))) hk
            refine w_pure (p_move (v := .bool (((((l[((Flight.who l)[i]).toNat]).key != (l[i]).key) || decide ((i : Int) < (Flight.who l)[i])) || decide ((Flight.when_ l)[i] ≤ (l[i]).at_)) || decide ((l[((Flight.who l)[i]).toNat]).long < (IntKind.i64.wrap ((Flight.when_ l)[i] - (l[i]).at_))))) rfl) rfl rfl rfl ?_
            refine w_or (p := 176) 13 ((Flight.who l)[((Flight.who l)[i]).toNat] != (Flight.who l)[i]) ?_ ?_ ?_
            · intro hb30 hk
              simp only [Bool.or_eq_false_iff, bne_eq_false_iff_eq, decide_eq_false_iff_not, Int.not_lt, Int.not_le] at hb30
              refine w_unguard 163 rfl rfl ?_
              refine w_pure (p_move (v := .slice a3 (Flight.who l).length c4) rfl) rfl rfl rfl ?_
              refine w_unguard 163 rfl rfl ?_
              refine w_pure (p_move (v := .slice a3 (Flight.who l).length c4) rfl) rfl rfl rfl ?_
              refine w_unguard 163 rfl rfl ?_
              refine w_pure (p_move (v := .int .i64 (i : Int)) rfl) rfl rfl rfl ?_
              refine w_unguard 163 rfl rfl ?_
              refine w_pure (p_indexAddr (L := (Flight.who l)) (T := tInt) (i := (i : Int)) rfl rfl (rd_ent (i := 2) rfl (fun w h => h.1)) Try.underlying38 sz3 (by omega) (by omega)) rfl rfl rfl ?_
              refine w_unguard 163 rfl rfl ?_
              refine w_pure (p_loadE1 (i := i) (T := tInt) (L := (Flight.who l)) (v := .int .i64 ((Flight.who l)[i])) rfl (rd_ent (i := 2) rfl (fun w h => h.1)) (by first | assumption | omega) sh3 rfl) rfl rfl rfl ?_
              refine w_unguard 163 rfl rfl ?_
              refine w_pure (p_indexAddr (L := (Flight.who l)) (T := tInt) (i := (Flight.who l)[i]) rfl rfl (rd_ent (i := 2) rfl (fun w h => h.1)) Try.underlying38 sz3 (by omega) (by omega)) rfl rfl rfl ?_
              refine w_unguard 163 rfl rfl ?_
              refine w_pure (p_loadE1 (i := ((Flight.who l)[i]).toNat) (T := tInt) (L := (Flight.who l)) (v := .int .i64 ((Flight.who l)[((Flight.who l)[i]).toNat])) rfl (rd_ent (i := 2) rfl (fun w h => h.1)) (by first | assumption | omega) sh3 rfl) rfl rfl rfl ?_
              refine w_unguard 163 rfl rfl ?_
              refine w_pure (p_move (v := .slice a3 (Flight.who l).length c4) rfl) rfl rfl rfl ?_
              refine w_unguard 163 rfl rfl ?_
              refine w_pure (p_move (v := .int .i64 (i : Int)) rfl) rfl rfl rfl ?_
              refine w_unguard 163 rfl rfl ?_
              refine w_pure (p_indexAddr (L := (Flight.who l)) (T := tInt) (i := (i : Int)) rfl rfl (rd_ent (i := 2) rfl (fun w h => h.1)) Try.underlying38 sz3 (by omega) (by omega)) rfl rfl rfl ?_
              refine w_unguard 163 rfl rfl ?_
              refine w_pure (p_loadE1 (i := i) (T := tInt) (L := (Flight.who l)) (v := .int .i64 ((Flight.who l)[i])) rfl (rd_ent (i := 2) rfl (fun w h => h.1)) (by first | assumption | omega) sh3 rfl) rfl rfl rfl ?_
              refine w_unguard 163 rfl rfl ?_
              refine w_pure (p_ne (p := (Flight.who l)[((Flight.who l)[i]).toNat]) (q := (Flight.who l)[i]) rfl rfl) rfl rfl rfl ?_
              refine w_pure (p_pick_false (v := .bool ((Flight.who l)[((Flight.who l)[i]).toNat] != (Flight.who l)[i])) rfl rfl) rfl rfl rfl ?_
              exact w_sub (Sub.cons rfl (Sub.skip rfl (Sub.skip rfl (Sub.skip rfl (Sub.skip rfl (Sub.skip rfl (Sub.skip rfl (Sub.skip rfl (Sub.skip rfl (Sub.skip rfl (Sub.skip rfl (Sub.skip rfl (Sub.skip rfl (Sub.skip rfl (Sub.skip rfl (Sub.refl _)))))))))))))))) hk
            · intro hb30 hk
              refine w_guard_no rfl 163 rfl rfl rfl rfl rfl ?_
              refine w_guard_no rfl 163 rfl rfl rfl rfl rfl ?_
              refine w_guard_no rfl 163 rfl rfl rfl rfl rfl ?_
              refine w_guard_no rfl 163 rfl rfl rfl rfl rfl ?_
              refine w_guard_no rfl 163 rfl rfl rfl rfl rfl ?_
              refine w_guard_no rfl 163 rfl rfl rfl rfl rfl ?_
              refine w_guard_no rfl 163 rfl rfl rfl rfl rfl ?_
              refine w_guard_no rfl 163 rfl rfl rfl rfl rfl ?_
              refine w_guard_no rfl 163 rfl rfl rfl rfl rfl ?_
              refine w_guard_no rfl 163 rfl rfl rfl rfl rfl ?_
              refine w_guard_no rfl 163 rfl rfl rfl rfl rfl ?_
              refine w_guard_no rfl 163 rfl rfl rfl rfl rfl ?_
              refine w_pure (p_pick_true (u := .bool true) rfl rfl) rfl rfl rfl ?_
              exact w_sub (Sub.cons rfl (Sub.skip rfl (Sub.skip rfl (Sub.skip rfl (Sub.skip rfl (Sub.skip rfl (Sub.skip rfl (Sub.skip rfl (Sub.skip rfl (Sub.skip rfl (Sub.skip rfl (Sub.skip rfl (Sub.skip rfl (Sub.skip rfl (Sub.skip rfl (Sub.refl _)))))))))))))))) hk
            refine w_nil ?_
            refine q_then ?_
            refine c_cond (b := ((((((l[((Flight.who l)[i]).toNat]).key != (l[i]).key) || decide ((i : Int) < (Flight.who l)[i])) || decide ((Flight.when_ l)[i] ≤ (l[i]).at_)) || decide ((l[((Flight.who l)[i]).toNat]).long < (IntKind.i64.wrap ((Flight.when_ l)[i] - (l[i]).at_)))) || ((Flight.who l)[((Flight.who l)[i]).toNat] != (Flight.who l)[i]))) rfl (fun hc31 => ?_) (fun hc31 => ?_)
            · simp only [Bool.or_eq_true, bne_iff_ne, ne_eq, decide_eq_true_eq] at hc31
              exfalso
              simp only [hx] at hc31
              rw [Flight.wrap_ok (by omega)] at hc31
              omega
            · simp only [Bool.or_eq_false_iff, bne_eq_false_iff_eq, decide_eq_false_iff_not, Int.not_lt, Int.not_le] at hc31
              refine c_skip ?_
              refine q_block_normal (q_then ?_)
              refine c_region ?_
              refine o_pure (p_move (v := .int .i64 (i : Int)) rfl) rfl rfl rfl ?_
              refine o_pure (p_addb (p := (i : Int)) (q := 1) rfl rfl (by omega)) rfl rfl rfl ?_
              refine o_pure (p_assign (v := .int .i64 ((i : Int) + 1)) rfl) rfl rfl rfl ?_
              refine o_nil ?_
              refine q_round hK22 (i + 1) ?_ ?_ ?_ ?_
              · clear hK22
                omega
              · (try dsimp only); omega
              · exact Sub.cons rfl (Sub.cons rfl (Sub.cons rfl (Sub.cons rfl (Sub.nil _))))
              · exact fun _ hw => HeapIs.drop hw (List.Sublist.cons _ (List.Sublist.refl _))
        · simp only [decide_eq_false_iff_not, Int.not_lt] at hc23
          refine c_exit ?_
          refine q_then_exit (q_then_exit (q_block_exit (q_then ?_)))
          refine c_seq ?_
          refine c_region ?_
          refine o_pure (p_assign (v := .bool true) rfl) rfl rfl rfl ?_
          refine o_nil ?_
          refine q_then ?_
          refine c_ret ?_
          refine q_end0 (v := .bool true) (rt1 rfl (r_tmp rfl)) (i := 2) rfl ?_
          first | rfl | (rw [Flight.who_nil (by assumption), Flight.when_nil (by assumption)]; rfl)
end Go.Proofs.Ythbfdhphnofacaa
