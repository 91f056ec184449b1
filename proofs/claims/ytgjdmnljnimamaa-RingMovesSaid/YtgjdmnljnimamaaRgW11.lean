/- The walks, printed by a program from the translation and a specification. -/
import Derived.Test.YtgjdmnljnimamaaRgF
import Derived.Test.YtgjdmnljnimamaaRgLaw3
import Derived.Test.YtgjdmnljnimamaaRgW9
namespace Go.Proofs.Ytgjdmnljnimamaa
open Go.Sx Go.RowKit
set_option maxHeartbeats 8000000 in
set_option maxRecDepth 100000 in
theorem ringMoves_ok (l : List DPoint) (al : Option Addr) (cl : Nat) (s : Int) (ps : List Int) (aps : Option Addr) (cps : Nat) (a : Int) : Fn0 Try.prog 4 [.slice al l.length cl, .int .i64 s, .slice aps ps.length cps, .int .i64 a] (fun w => Rd tPoint w al cl l ∧ Rd tInt w aps cps ps) (.bool true) := by
  refine fn0 (nt := 103) (F0 := [(0, .slice al l.length cl), (1, .int .i64 s), (2, .slice aps ps.length cps), (3, .int .i64 a)]) Try.func4 rfl Try.ntmps4 rfl rfl (fun w0 hpre => ?_)
  obtain ⟨hl, hps⟩ := hpre
  have hlhl := hl.2.1
  have hlhps := hps.2.1
  refine c_seq ?_
  refine c_region ?_
  refine o_pure (p_assign (v := .bool false) rfl) rfl rfl rfl ?_
  refine o_nil ?_
  refine q_then ?_
  refine c_seq ?_
  refine c_region ?_
  refine o_pure (p_move (v := .slice aps ps.length cps) rfl) rfl rfl rfl ?_
  refine o_pure (p_move (v := .slice aps ps.length cps) rfl) rfl rfl rfl ?_
  refine o_pure (p_len_slice (len := ps.length) rfl rfl Try.underlying23) rfl rfl rfl ?_
  refine o_pure (p_min (p := (ps.length : Int)) (q := 20) rfl rfl) rfl rfl rfl ?_
  refine o_pure (p_sliceH (L := ps) (T := tInt) (h := (min (ps.length : Int) 20)) rfl rfl Try.underlying23 sz3 (by omega) (by omega) (rd_base (i := 0) rfl hps)) rfl rfl rfl ?_
  refine o_pure (p_assign (v := .slice aps (ps.take ((min (ps.length : Int) 20).toNat)).length cps) rfl) rfl rfl rfl ?_
  refine o_nil ?_
  refine q_then ?_
  refine c_seq ?_
  refine c_region ?_
  refine o_pure (p_move (v := .slice al l.length cl) rfl) rfl rfl rfl ?_
  refine o_pure (p_move (v := .int .i64 s) rfl) rfl rfl rfl ?_
  refine o_pure (p_move (v := .slice aps (ps.take ((min (ps.length : Int) 20).toNat)).length cps) rfl) rfl rfl rfl ?_
  refine o_callM rfl (radd_ok l al cl s (ps.take ((min (ps.length : Int) 20).toNat)) aps cps) hf16 (fun w hw => ⟨(rd_base (i := 0) rfl hl) w hw, (rd_takeC (hi := (min (ps.length : Int) 20).toNat) (rd_base (i := 0) rfl hps) (by omega)) w hw⟩) rfl (fun _ _ _ _ ha hA => SlO.agree ha hA) ?_
  rintro ⟨a3, c4⟩ S1
  refine o_know (fun w hw => own_len (i := 0) (T := tPoint) hw rfl) (fun hlr5 => ?_)
  refine o_pure (p_move (v := .tuple #[.slice a3 (Rg.add l s (ps.take ((min (ps.length : Int) 20).toNat))).length c4, .int .i64 (Rg.addErr l s (ps.take ((min (ps.length : Int) 20).toNat)))]) rfl) rfl rfl rfl ?_
  refine o_pure (p_extract (vs := [.slice a3 (Rg.add l s (ps.take ((min (ps.length : Int) 20).toNat))).length c4, .int .i64 (Rg.addErr l s (ps.take ((min (ps.length : Int) 20).toNat)))]) (v := .slice a3 (Rg.add l s (ps.take ((min (ps.length : Int) 20).toNat))).length c4) rfl rfl) rfl rfl rfl ?_
  refine o_pure (p_extract (vs := [.slice a3 (Rg.add l s (ps.take ((min (ps.length : Int) 20).toNat))).length c4, .int .i64 (Rg.addErr l s (ps.take ((min (ps.length : Int) 20).toNat)))]) (v := .int .i64 (Rg.addErr l s (ps.take ((min (ps.length : Int) 20).toNat)))) rfl rfl) rfl rfl rfl ?_
  refine o_pure (p_assign (v := .slice a3 (Rg.add l s (ps.take ((min (ps.length : Int) 20).toNat))).length c4) rfl) rfl rfl rfl ?_
  refine o_pure (p_assign (v := .int .i64 (Rg.addErr l s (ps.take ((min (ps.length : Int) 20).toNat)))) rfl) rfl rfl rfl ?_
  refine o_nil ?_
  refine q_then ?_
  refine c_seq ?_
  refine c_region ?_
  refine o_pure (p_move (v := .slice al l.length cl) rfl) rfl rfl rfl ?_
  refine o_pure (p_move (v := .int .i64 a) rfl) rfl rfl rfl ?_
  refine o_call0 (v := .tuple #[.int .i64 (Rg.owner l a), .int .i64 (Rg.ownErr l a)]) rfl (rowner_ok l al cl a) hf15 (fun w hw => (rd_base (i := 1) rfl hl) w hw) rfl ?_
  refine o_pure (p_move (v := .tuple #[.int .i64 (Rg.owner l a), .int .i64 (Rg.ownErr l a)]) rfl) rfl rfl rfl ?_
  refine o_pure (p_extract (vs := [.int .i64 (Rg.owner l a), .int .i64 (Rg.ownErr l a)]) (v := .int .i64 (Rg.owner l a)) rfl rfl) rfl rfl rfl ?_
  refine o_pure (p_extract (vs := [.int .i64 (Rg.owner l a), .int .i64 (Rg.ownErr l a)]) (v := .int .i64 (Rg.ownErr l a)) rfl rfl) rfl rfl rfl ?_
  refine o_pure (p_assign (v := .int .i64 (Rg.owner l a)) rfl) rfl rfl rfl ?_
  refine o_pure (p_assign (v := .int .i64 (Rg.ownErr l a)) rfl) rfl rfl rfl ?_
  refine o_nil ?_
  refine q_then ?_
  refine c_seq ?_
  refine c_seq ?_
  refine c_region ?_
  refine o_call0 (v := .bool true) rfl (ringBegun_ok ) hf23 (fun _ _ => trivial) rfl ?_
  refine o_pure (p_not (b := true) rfl) rfl rfl rfl ?_
  refine o_nil ?_
  refine q_then ?_
  refine c_false rfl ?_
  refine c_skip ?_
  refine q_then ?_
  refine c_seq ?_
  refine c_seq ?_
  refine c_region ?_
  refine o_pure (p_move (v := .int .i64 (Rg.addErr l s (ps.take ((min (ps.length : Int) 20).toNat)))) rfl) rfl rfl rfl ?_
  refine o_pure (p_eq (p := (Rg.addErr l s (ps.take ((min (ps.length : Int) 20).toNat)))) (q := 0) rfl rfl) rfl rfl rfl ?_
  refine o_pure (p_move (v := .bool ((Rg.addErr l s (ps.take ((min (ps.length : Int) 20).toNat))) == 0)) rfl) rfl rfl rfl ?_
  refine o_and (p := 44) 3 ((Rg.ownErr l a) == 0) ?_ ?_ ?_
  · intro hb6 hk
    simp only [beq_iff_eq] at hb6
    refine o_unguard 41 rfl rfl ?_
    refine o_pure (p_move (v := .int .i64 (Rg.ownErr l a)) rfl) rfl rfl rfl ?_
    refine o_unguard 41 rfl rfl ?_
    refine o_pure (p_eq (p := (Rg.ownErr l a)) (q := 0) rfl rfl) rfl rfl rfl ?_
    refine o_pure (p_pick_true (u := .bool ((Rg.ownErr l a) == 0)) rfl rfl) rfl rfl rfl ?_
    exact o_sub (Sub.cons rfl (Sub.skip rfl (Sub.skip rfl (Sub.skip rfl (Sub.skip rfl (Sub.refl _)))))) hk
  · intro hb6 hk
    refine o_guard_no rfl 41 rfl rfl rfl rfl rfl ?_
    refine o_guard_no rfl 41 rfl rfl rfl rfl rfl ?_
    refine o_pure (p_pick_false (v := .bool false) rfl rfl) rfl rfl rfl ?_
    exact o_sub (Sub.cons rfl (Sub.skip rfl (Sub.skip rfl (Sub.skip rfl (Sub.skip rfl (Sub.refl _)))))) hk
  refine o_nil ?_
  refine q_then ?_
  refine c_cond (b := (((Rg.addErr l s (ps.take ((min (ps.length : Int) 20).toNat))) == 0) && ((Rg.ownErr l a) == 0))) rfl (fun hc7 => ?_) (fun hc7 => ?_)
  · simp only [Bool.and_eq_true, beq_iff_eq] at hc7
    have hmv := Rg.moves1 hc7.1 hc7.2
    refine c_seq ?_
    refine c_region ?_
    refine o_pure (p_move (v := .slice a3 (Rg.add l s (ps.take ((min (ps.length : Int) 20).toNat))).length c4) rfl) rfl rfl rfl ?_
    refine o_pure (p_move (v := .int .i64 a) rfl) rfl rfl rfl ?_
    refine o_call0 (v := .tuple #[.int .i64 (Rg.owner (Rg.add l s (ps.take ((min (ps.length : Int) 20).toNat))) a), .int .i64 (Rg.ownErr (Rg.add l s (ps.take ((min (ps.length : Int) 20).toNat))) a)]) rfl (rowner_ok (Rg.add l s (ps.take ((min (ps.length : Int) 20).toNat))) a3 c4 a) hf15 (fun w hw => (rd_own (i := 0) rfl) w hw) rfl ?_
    refine o_pure (p_move (v := .tuple #[.int .i64 (Rg.owner (Rg.add l s (ps.take ((min (ps.length : Int) 20).toNat))) a), .int .i64 (Rg.ownErr (Rg.add l s (ps.take ((min (ps.length : Int) 20).toNat))) a)]) rfl) rfl rfl rfl ?_
    refine o_pure (p_extract (vs := [.int .i64 (Rg.owner (Rg.add l s (ps.take ((min (ps.length : Int) 20).toNat))) a), .int .i64 (Rg.ownErr (Rg.add l s (ps.take ((min (ps.length : Int) 20).toNat))) a)]) (v := .int .i64 (Rg.owner (Rg.add l s (ps.take ((min (ps.length : Int) 20).toNat))) a)) rfl rfl) rfl rfl rfl ?_
    refine o_pure (p_extract (vs := [.int .i64 (Rg.owner (Rg.add l s (ps.take ((min (ps.length : Int) 20).toNat))) a), .int .i64 (Rg.ownErr (Rg.add l s (ps.take ((min (ps.length : Int) 20).toNat))) a)]) (v := .int .i64 (Rg.ownErr (Rg.add l s (ps.take ((min (ps.length : Int) 20).toNat))) a)) rfl rfl) rfl rfl rfl ?_
    refine o_pure (p_assign (v := .int .i64 (Rg.owner (Rg.add l s (ps.take ((min (ps.length : Int) 20).toNat))) a)) rfl) rfl rfl rfl ?_
    refine o_pure (p_assign (v := .int .i64 (Rg.ownErr (Rg.add l s (ps.take ((min (ps.length : Int) 20).toNat))) a)) rfl) rfl rfl rfl ?_
    refine o_nil ?_
    refine q_then ?_
    refine c_seq ?_
    refine c_region ?_
    refine o_pure (p_move (v := .int .i64 (Rg.ownErr (Rg.add l s (ps.take ((min (ps.length : Int) 20).toNat))) a)) rfl) rfl rfl rfl ?_
    refine o_pure (p_ne (p := (Rg.ownErr (Rg.add l s (ps.take ((min (ps.length : Int) 20).toNat))) a)) (q := 0) rfl rfl) rfl rfl rfl ?_
    refine o_pure (p_move (v := .bool ((Rg.ownErr (Rg.add l s (ps.take ((min (ps.length : Int) 20).toNat))) a) != 0)) rfl) rfl rfl rfl ?_
    refine o_or (p := 62) 9 (((Rg.owner l a) != (Rg.owner (Rg.add l s (ps.take ((min (ps.length : Int) 20).toNat))) a)) && ((Rg.owner (Rg.add l s (ps.take ((min (ps.length : Int) 20).toNat))) a) != s)) ?_ ?_ ?_
    · intro hb8 hk
      simp only [bne_eq_false_iff_eq] at hb8
      refine o_unguard 53 rfl rfl ?_
      refine o_pure (p_move (v := .int .i64 (Rg.owner l a)) rfl) rfl rfl rfl ?_
      refine o_unguard 53 rfl rfl ?_
      refine o_pure (p_move (v := .int .i64 (Rg.owner (Rg.add l s (ps.take ((min (ps.length : Int) 20).toNat))) a)) rfl) rfl rfl rfl ?_
      refine o_unguard 53 rfl rfl ?_
      refine o_pure (p_ne (p := (Rg.owner l a)) (q := (Rg.owner (Rg.add l s (ps.take ((min (ps.length : Int) 20).toNat))) a)) rfl rfl) rfl rfl rfl ?_
      refine o_unguard 53 rfl rfl ?_
      refine o_pure (p_move (v := .bool ((Rg.owner l a) != (Rg.owner (Rg.add l s (ps.take ((min (ps.length : Int) 20).toNat))) a))) rfl) rfl rfl rfl ?_
      refine o_and (p := 61) 4 ((Rg.owner (Rg.add l s (ps.take ((min (ps.length : Int) 20).toNat))) a) != s) ?_ ?_ ?_
      · intro hb9 hk
        simp only [bne_iff_ne, ne_eq] at hb9
        refine o_unguard 57 rfl rfl ?_
        refine o_pure (p_move (v := .int .i64 (Rg.owner (Rg.add l s (ps.take ((min (ps.length : Int) 20).toNat))) a)) rfl) rfl rfl rfl ?_
        refine o_unguard 57 rfl rfl ?_
        refine o_pure (p_move (v := .int .i64 s) rfl) rfl rfl rfl ?_
        refine o_unguard 57 rfl rfl ?_
        refine o_pure (p_ne (p := (Rg.owner (Rg.add l s (ps.take ((min (ps.length : Int) 20).toNat))) a)) (q := s) rfl rfl) rfl rfl rfl ?_
        refine o_unguard 53 rfl rfl ?_
        refine o_pure (p_pick_true (u := .bool ((Rg.owner (Rg.add l s (ps.take ((min (ps.length : Int) 20).toNat))) a) != s)) rfl rfl) rfl rfl rfl ?_
        exact o_sub (Sub.cons rfl (Sub.skip rfl (Sub.skip rfl (Sub.skip rfl (Sub.skip rfl (Sub.skip rfl (Sub.refl _))))))) hk
      · intro hb9 hk
        refine o_guard_no rfl 57 rfl rfl rfl rfl rfl ?_
        refine o_guard_no rfl 57 rfl rfl rfl rfl rfl ?_
        refine o_guard_no rfl 57 rfl rfl rfl rfl rfl ?_
        refine o_unguard 53 rfl rfl ?_
        refine o_pure (p_pick_false (v := .bool false) rfl rfl) rfl rfl rfl ?_
        exact o_sub (Sub.cons rfl (Sub.skip rfl (Sub.skip rfl (Sub.skip rfl (Sub.skip rfl (Sub.skip rfl (Sub.refl _))))))) hk
      refine o_pure (p_pick_false (v := .bool (((Rg.owner l a) != (Rg.owner (Rg.add l s (ps.take ((min (ps.length : Int) 20).toNat))) a)) && ((Rg.owner (Rg.add l s (ps.take ((min (ps.length : Int) 20).toNat))) a) != s))) rfl rfl) rfl rfl rfl ?_
      exact o_sub (Sub.cons rfl (Sub.skip rfl (Sub.skip rfl (Sub.skip rfl (Sub.skip rfl (Sub.skip rfl (Sub.skip rfl (Sub.refl _)))))))) hk
    · intro hb8 hk
      refine o_guard_no rfl 53 rfl rfl rfl rfl rfl ?_
      refine o_guard_no rfl 53 rfl rfl rfl rfl rfl ?_
      refine o_guard_no rfl 53 rfl rfl rfl rfl rfl ?_
      refine o_guard_no rfl 53 rfl rfl rfl rfl rfl ?_
      refine o_guard_no rfl 57 rfl rfl rfl rfl rfl ?_
      refine o_guard_no rfl 57 rfl rfl rfl rfl rfl ?_
      refine o_guard_no rfl 57 rfl rfl rfl rfl rfl ?_
      refine o_guard_no rfl 53 rfl rfl rfl rfl rfl ?_
      refine o_pure (p_pick_true (u := .bool true) rfl rfl) rfl rfl rfl ?_
      exact o_sub (Sub.cons rfl (Sub.skip rfl (Sub.skip rfl (Sub.skip rfl (Sub.skip rfl (Sub.skip rfl (Sub.skip rfl (Sub.skip rfl (Sub.skip rfl (Sub.skip rfl (Sub.skip rfl (Sub.refl _)))))))))))) hk
    refine o_nil ?_
    refine q_then ?_
    refine c_cond (b := (((Rg.ownErr (Rg.add l s (ps.take ((min (ps.length : Int) 20).toNat))) a) != 0) || (((Rg.owner l a) != (Rg.owner (Rg.add l s (ps.take ((min (ps.length : Int) 20).toNat))) a)) && ((Rg.owner (Rg.add l s (ps.take ((min (ps.length : Int) 20).toNat))) a) != s)))) rfl (fun hc10 => ?_) (fun hc10 => ?_)
    · simp only [Bool.or_eq_true, bne_iff_ne, ne_eq, Bool.and_eq_true] at hc10
      exfalso; have hmw := hc10; first | omega | (simp_all; done) | (rcases hmv with ⟨m1, m2, m3⟩; rcases m2 with m2 | m2 <;> omega) | grind
    · simp only [Bool.or_eq_false_iff, bne_eq_false_iff_eq, Bool.and_eq_false_iff] at hc10
      refine c_skip ?_
      refine q_then ?_
      refine c_seq ?_
      refine c_region ?_
      refine o_pure (p_move (v := .slice al l.length cl) rfl) rfl rfl rfl ?_
      refine o_pure (p_move (v := .int .i64 s) rfl) rfl rfl rfl ?_
      refine o_callM rfl (rremove_ok l al cl s) hf17 (fun w hw => (rd_base (i := 1) rfl hl) w hw) rfl (fun _ _ _ _ ha hA => SlO.agree ha hA) ?_
      rintro ⟨a13, c14⟩ S11
      refine o_know (fun w hw => own_len (i := 0) (T := tPoint) hw rfl) (fun hlr15 => ?_)
      refine o_pure (p_move (v := .tuple #[.slice a13 (Rg.rem l s).length c14, .int .i64 (Rg.remErr l s)]) rfl) rfl rfl rfl ?_
      refine o_pure (p_extract (vs := [.slice a13 (Rg.rem l s).length c14, .int .i64 (Rg.remErr l s)]) (v := .slice a13 (Rg.rem l s).length c14) rfl rfl) rfl rfl rfl ?_
      refine o_pure (p_extract (vs := [.slice a13 (Rg.rem l s).length c14, .int .i64 (Rg.remErr l s)]) (v := .int .i64 (Rg.remErr l s)) rfl rfl) rfl rfl rfl ?_
      refine o_pure (p_assign (v := .slice a13 (Rg.rem l s).length c14) rfl) rfl rfl rfl ?_
      refine o_pure (p_assign (v := .int .i64 (Rg.remErr l s)) rfl) rfl rfl rfl ?_
      refine o_nil ?_
      refine q_then ?_
      refine c_seq ?_
      refine c_seq ?_
      refine c_region ?_
      refine o_pure (p_move (v := .int .i64 (Rg.remErr l s)) rfl) rfl rfl rfl ?_
      refine o_pure (p_eq (p := (Rg.remErr l s)) (q := 0) rfl rfl) rfl rfl rfl ?_
      refine o_pure (p_move (v := .bool ((Rg.remErr l s) == 0)) rfl) rfl rfl rfl ?_
      refine o_and (p := 74) 3 ((Rg.ownErr l a) == 0) ?_ ?_ ?_
      · intro hb16 hk
        simp only [beq_iff_eq] at hb16
        refine o_unguard 71 rfl rfl ?_
        refine o_pure (p_move (v := .int .i64 (Rg.ownErr l a)) rfl) rfl rfl rfl ?_
        refine o_unguard 71 rfl rfl ?_
        refine o_pure (p_eq (p := (Rg.ownErr l a)) (q := 0) rfl rfl) rfl rfl rfl ?_
        refine o_pure (p_pick_true (u := .bool ((Rg.ownErr l a) == 0)) rfl rfl) rfl rfl rfl ?_
        exact o_sub (Sub.cons rfl (Sub.skip rfl (Sub.skip rfl (Sub.skip rfl (Sub.skip rfl (Sub.refl _)))))) hk
      · intro hb16 hk
        refine o_guard_no rfl 71 rfl rfl rfl rfl rfl ?_
        refine o_guard_no rfl 71 rfl rfl rfl rfl rfl ?_
        refine o_pure (p_pick_false (v := .bool false) rfl rfl) rfl rfl rfl ?_
        exact o_sub (Sub.cons rfl (Sub.skip rfl (Sub.skip rfl (Sub.skip rfl (Sub.skip rfl (Sub.refl _)))))) hk
      refine o_pure (p_move (v := .bool (((Rg.remErr l s) == 0) && ((Rg.ownErr l a) == 0))) rfl) rfl rfl rfl ?_
      refine o_and (p := 79) 4 (decide (0 < ((Rg.rem l s).length : Int))) ?_ ?_ ?_
      · intro hb17 hk
        simp only [Bool.and_eq_true, beq_iff_eq] at hb17
        refine o_unguard 75 rfl rfl ?_
        refine o_pure (p_move (v := .slice a13 (Rg.rem l s).length c14) rfl) rfl rfl rfl ?_
        refine o_unguard 75 rfl rfl ?_
        refine o_pure (p_len_slice (len := (Rg.rem l s).length) rfl rfl Try.underlying22) rfl rfl rfl ?_
        refine o_unguard 75 rfl rfl ?_
        refine o_pure (p_gt (p := ((Rg.rem l s).length : Int)) (q := 0) rfl rfl) rfl rfl rfl ?_
        refine o_pure (p_pick_true (u := .bool (decide (0 < ((Rg.rem l s).length : Int)))) rfl rfl) rfl rfl rfl ?_
        exact o_sub (Sub.cons rfl (Sub.skip rfl (Sub.skip rfl (Sub.skip rfl (Sub.skip rfl (Sub.skip rfl (Sub.refl _))))))) hk
      · intro hb17 hk
        refine o_guard_no rfl 75 rfl rfl rfl rfl rfl ?_
        refine o_guard_no rfl 75 rfl rfl rfl rfl rfl ?_
        refine o_guard_no rfl 75 rfl rfl rfl rfl rfl ?_
        refine o_pure (p_pick_false (v := .bool false) rfl rfl) rfl rfl rfl ?_
        exact o_sub (Sub.cons rfl (Sub.skip rfl (Sub.skip rfl (Sub.skip rfl (Sub.skip rfl (Sub.skip rfl (Sub.refl _))))))) hk
      refine o_nil ?_
      refine q_then ?_
      refine c_cond (b := ((((Rg.remErr l s) == 0) && ((Rg.ownErr l a) == 0)) && decide (0 < ((Rg.rem l s).length : Int)))) rfl (fun hc18 => ?_) (fun hc18 => ?_)
      · simp only [Bool.and_eq_true, beq_iff_eq, decide_eq_true_eq] at hc18
        have hmv := Rg.moves2 hc18.1.1 hc18.1.2 (by omega)
        refine c_seq ?_
        refine c_region ?_
        refine o_pure (p_move (v := .slice a13 (Rg.rem l s).length c14) rfl) rfl rfl rfl ?_
        refine o_pure (p_move (v := .int .i64 a) rfl) rfl rfl rfl ?_
        refine o_call0 (v := .tuple #[.int .i64 (Rg.owner (Rg.rem l s) a), .int .i64 (Rg.ownErr (Rg.rem l s) a)]) rfl (rowner_ok (Rg.rem l s) a13 c14 a) hf15 (fun w hw => (rd_own (i := 0) rfl) w hw) rfl ?_
        refine o_pure (p_move (v := .tuple #[.int .i64 (Rg.owner (Rg.rem l s) a), .int .i64 (Rg.ownErr (Rg.rem l s) a)]) rfl) rfl rfl rfl ?_
        refine o_pure (p_extract (vs := [.int .i64 (Rg.owner (Rg.rem l s) a), .int .i64 (Rg.ownErr (Rg.rem l s) a)]) (v := .int .i64 (Rg.owner (Rg.rem l s) a)) rfl rfl) rfl rfl rfl ?_
        refine o_pure (p_extract (vs := [.int .i64 (Rg.owner (Rg.rem l s) a), .int .i64 (Rg.ownErr (Rg.rem l s) a)]) (v := .int .i64 (Rg.ownErr (Rg.rem l s) a)) rfl rfl) rfl rfl rfl ?_
        refine o_pure (p_assign (v := .int .i64 (Rg.owner (Rg.rem l s) a)) rfl) rfl rfl rfl ?_
        refine o_pure (p_assign (v := .int .i64 (Rg.ownErr (Rg.rem l s) a)) rfl) rfl rfl rfl ?_
        refine o_nil ?_
        refine q_then ?_
        refine c_seq ?_
        refine c_region ?_
        refine o_pure (p_move (v := .int .i64 (Rg.ownErr (Rg.rem l s) a)) rfl) rfl rfl rfl ?_
        refine o_pure (p_ne (p := (Rg.ownErr (Rg.rem l s) a)) (q := 0) rfl rfl) rfl rfl rfl ?_
        refine o_pure (p_move (v := .bool ((Rg.ownErr (Rg.rem l s) a) != 0)) rfl) rfl rfl rfl ?_
        refine o_or (p := 97) 9 (((Rg.owner l a) != (Rg.owner (Rg.rem l s) a)) && ((Rg.owner l a) != s)) ?_ ?_ ?_
        · intro hb19 hk
          simp only [bne_eq_false_iff_eq] at hb19
          refine o_unguard 88 rfl rfl ?_
          refine o_pure (p_move (v := .int .i64 (Rg.owner l a)) rfl) rfl rfl rfl ?_
          refine o_unguard 88 rfl rfl ?_
          refine o_pure (p_move (v := .int .i64 (Rg.owner (Rg.rem l s) a)) rfl) rfl rfl rfl ?_
          refine o_unguard 88 rfl rfl ?_
          refine o_pure (p_ne (p := (Rg.owner l a)) (q := (Rg.owner (Rg.rem l s) a)) rfl rfl) rfl rfl rfl ?_
          refine o_unguard 88 rfl rfl ?_
          refine o_pure (p_move (v := .bool ((Rg.owner l a) != (Rg.owner (Rg.rem l s) a))) rfl) rfl rfl rfl ?_
          refine o_and (p := 96) 4 ((Rg.owner l a) != s) ?_ ?_ ?_
          · intro hb20 hk
            simp only [bne_iff_ne, ne_eq] at hb20
            refine o_unguard 92 rfl rfl ?_
            refine o_pure (p_move (v := .int .i64 (Rg.owner l a)) rfl) rfl rfl rfl ?_
            refine o_unguard 92 rfl rfl ?_
            refine o_pure (p_move (v := .int .i64 s) rfl) rfl rfl rfl ?_
            refine o_unguard 92 rfl rfl ?_
            refine o_pure (p_ne (p := (Rg.owner l a)) (q := s) rfl rfl) rfl rfl rfl ?_
            refine o_unguard 88 rfl rfl ?_
            refine o_pure (p_pick_true (u := .bool ((Rg.owner l a) != s)) rfl rfl) rfl rfl rfl ?_
            exact o_sub (Sub.cons rfl (Sub.skip rfl (Sub.skip rfl (Sub.skip rfl (Sub.skip rfl (Sub.skip rfl (Sub.refl _))))))) hk
          · intro hb20 hk
            refine o_guard_no rfl 92 rfl rfl rfl rfl rfl ?_
            refine o_guard_no rfl 92 rfl rfl rfl rfl rfl ?_
            refine o_guard_no rfl 92 rfl rfl rfl rfl rfl ?_
            refine o_unguard 88 rfl rfl ?_
            refine o_pure (p_pick_false (v := .bool false) rfl rfl) rfl rfl rfl ?_
            exact o_sub (Sub.cons rfl (Sub.skip rfl (Sub.skip rfl (Sub.skip rfl (Sub.skip rfl (Sub.skip rfl (Sub.refl _))))))) hk
          refine o_pure (p_pick_false (v := .bool (((Rg.owner l a) != (Rg.owner (Rg.rem l s) a)) && ((Rg.owner l a) != s))) rfl rfl) rfl rfl rfl ?_
          exact o_sub (Sub.cons rfl (Sub.skip rfl (Sub.skip rfl (Sub.skip rfl (Sub.skip rfl (Sub.skip rfl (Sub.skip rfl (Sub.refl _)))))))) hk
        · intro hb19 hk
          refine o_guard_no rfl 88 rfl rfl rfl rfl rfl ?_
          refine o_guard_no rfl 88 rfl rfl rfl rfl rfl ?_
          refine o_guard_no rfl 88 rfl rfl rfl rfl rfl ?_
          refine o_guard_no rfl 88 rfl rfl rfl rfl rfl ?_
          refine o_guard_no rfl 92 rfl rfl rfl rfl rfl ?_
          refine o_guard_no rfl 92 rfl rfl rfl rfl rfl ?_
          refine o_guard_no rfl 92 rfl rfl rfl rfl rfl ?_
          refine o_guard_no rfl 88 rfl rfl rfl rfl rfl ?_
          refine o_pure (p_pick_true (u := .bool true) rfl rfl) rfl rfl rfl ?_
          exact o_sub (Sub.cons rfl (Sub.skip rfl (Sub.skip rfl (Sub.skip rfl (Sub.skip rfl (Sub.skip rfl (Sub.skip rfl (Sub.skip rfl (Sub.skip rfl (Sub.skip rfl (Sub.skip rfl (Sub.refl _)))))))))))) hk
        refine o_pure (p_move (v := .bool (((Rg.ownErr (Rg.rem l s) a) != 0) || (((Rg.owner l a) != (Rg.owner (Rg.rem l s) a)) && ((Rg.owner l a) != s)))) rfl) rfl rfl rfl ?_
        refine o_or (p := 102) 4 ((Rg.owner (Rg.rem l s) a) == s) ?_ ?_ ?_
        · intro hb21 hk
          simp only [Bool.or_eq_false_iff, bne_eq_false_iff_eq, Bool.and_eq_false_iff] at hb21
          refine o_unguard 98 rfl rfl ?_
          refine o_pure (p_move (v := .int .i64 (Rg.owner (Rg.rem l s) a)) rfl) rfl rfl rfl ?_
          refine o_unguard 98 rfl rfl ?_
          refine o_pure (p_move (v := .int .i64 s) rfl) rfl rfl rfl ?_
          refine o_unguard 98 rfl rfl ?_
          refine o_pure (p_eq (p := (Rg.owner (Rg.rem l s) a)) (q := s) rfl rfl) rfl rfl rfl ?_
          refine o_pure (p_pick_false (v := .bool ((Rg.owner (Rg.rem l s) a) == s)) rfl rfl) rfl rfl rfl ?_
          exact o_sub (Sub.cons rfl (Sub.skip rfl (Sub.skip rfl (Sub.skip rfl (Sub.skip rfl (Sub.skip rfl (Sub.refl _))))))) hk
        · intro hb21 hk
          refine o_guard_no rfl 98 rfl rfl rfl rfl rfl ?_
          refine o_guard_no rfl 98 rfl rfl rfl rfl rfl ?_
          refine o_guard_no rfl 98 rfl rfl rfl rfl rfl ?_
          refine o_pure (p_pick_true (u := .bool true) rfl rfl) rfl rfl rfl ?_
          exact o_sub (Sub.cons rfl (Sub.skip rfl (Sub.skip rfl (Sub.skip rfl (Sub.skip rfl (Sub.skip rfl (Sub.refl _))))))) hk
        refine o_nil ?_
        refine q_then ?_
        refine c_cond (b := ((((Rg.ownErr (Rg.rem l s) a) != 0) || (((Rg.owner l a) != (Rg.owner (Rg.rem l s) a)) && ((Rg.owner l a) != s))) || ((Rg.owner (Rg.rem l s) a) == s))) rfl (fun hc22 => ?_) (fun hc22 => ?_)
        · simp only [Bool.or_eq_true, bne_iff_ne, ne_eq, Bool.and_eq_true, beq_iff_eq] at hc22
          exfalso; have hmw := hc22; first | omega | (simp_all; done) | (rcases hmv with ⟨m1, m2, m3⟩; rcases m2 with m2 | m2 <;> omega) | grind
        · simp only [Bool.or_eq_false_iff, bne_eq_false_iff_eq, Bool.and_eq_false_iff, beq_eq_false_iff_ne, ne_eq] at hc22
          refine c_skip ?_
          refine q_then ?_
          refine c_seq ?_
          refine c_region ?_
          refine o_pure (p_assign (v := .bool true) rfl) rfl rfl rfl ?_
          refine o_nil ?_
          refine q_then ?_
          refine c_ret ?_
          refine q_end0 (v := .bool true) (rt1 rfl (r_tmp rfl)) (i := 2) rfl ?_
          exact rfl
      · simp only [Bool.and_eq_false_iff, beq_eq_false_iff_ne, ne_eq, decide_eq_false_iff_not, Int.not_lt] at hc18
        refine c_skip ?_
        refine q_then ?_
        refine c_seq ?_
        refine c_region ?_
        refine o_pure (p_assign (v := .bool true) rfl) rfl rfl rfl ?_
        refine o_nil ?_
        refine q_then ?_
        refine c_ret ?_
        refine q_end0 (v := .bool true) (rt1 rfl (r_tmp rfl)) (i := 2) rfl ?_
        exact rfl
  · simp only [Bool.and_eq_false_iff, beq_eq_false_iff_ne, ne_eq] at hc7
    refine c_skip ?_
    refine q_then ?_
    refine c_seq ?_
    refine c_region ?_
    refine o_pure (p_move (v := .slice al l.length cl) rfl) rfl rfl rfl ?_
    refine o_pure (p_move (v := .int .i64 s) rfl) rfl rfl rfl ?_
    refine o_callM rfl (rremove_ok l al cl s) hf17 (fun w hw => (rd_base (i := 1) rfl hl) w hw) rfl (fun _ _ _ _ ha hA => SlO.agree ha hA) ?_
    rintro ⟨a25, c26⟩ S23
    refine o_know (fun w hw => own_len (i := 0) (T := tPoint) hw rfl) (fun hlr27 => ?_)
    refine o_pure (p_move (v := .tuple #[.slice a25 (Rg.rem l s).length c26, .int .i64 (Rg.remErr l s)]) rfl) rfl rfl rfl ?_
    refine o_pure (p_extract (vs := [.slice a25 (Rg.rem l s).length c26, .int .i64 (Rg.remErr l s)]) (v := .slice a25 (Rg.rem l s).length c26) rfl rfl) rfl rfl rfl ?_
    refine o_pure (p_extract (vs := [.slice a25 (Rg.rem l s).length c26, .int .i64 (Rg.remErr l s)]) (v := .int .i64 (Rg.remErr l s)) rfl rfl) rfl rfl rfl ?_
    refine o_pure (p_assign (v := .slice a25 (Rg.rem l s).length c26) rfl) rfl rfl rfl ?_
    refine o_pure (p_assign (v := .int .i64 (Rg.remErr l s)) rfl) rfl rfl rfl ?_
    refine o_nil ?_
    refine q_then ?_
    refine c_seq ?_
    refine c_seq ?_
    refine c_region ?_
    refine o_pure (p_move (v := .int .i64 (Rg.remErr l s)) rfl) rfl rfl rfl ?_
    refine o_pure (p_eq (p := (Rg.remErr l s)) (q := 0) rfl rfl) rfl rfl rfl ?_
    refine o_pure (p_move (v := .bool ((Rg.remErr l s) == 0)) rfl) rfl rfl rfl ?_
    refine o_and (p := 74) 3 ((Rg.ownErr l a) == 0) ?_ ?_ ?_
    · intro hb28 hk
      simp only [beq_iff_eq] at hb28
      refine o_unguard 71 rfl rfl ?_
      refine o_pure (p_move (v := .int .i64 (Rg.ownErr l a)) rfl) rfl rfl rfl ?_
      refine o_unguard 71 rfl rfl ?_
      refine o_pure (p_eq (p := (Rg.ownErr l a)) (q := 0) rfl rfl) rfl rfl rfl ?_
      refine o_pure (p_pick_true (u := .bool ((Rg.ownErr l a) == 0)) rfl rfl) rfl rfl rfl ?_
      exact o_sub (Sub.cons rfl (Sub.skip rfl (Sub.skip rfl (Sub.skip rfl (Sub.skip rfl (Sub.refl _)))))) hk
    · intro hb28 hk
      refine o_guard_no rfl 71 rfl rfl rfl rfl rfl ?_
      refine o_guard_no rfl 71 rfl rfl rfl rfl rfl ?_
      refine o_pure (p_pick_false (v := .bool false) rfl rfl) rfl rfl rfl ?_
      exact o_sub (Sub.cons rfl (Sub.skip rfl (Sub.skip rfl (Sub.skip rfl (Sub.skip rfl (Sub.refl _)))))) hk
    refine o_pure (p_move (v := .bool (((Rg.remErr l s) == 0) && ((Rg.ownErr l a) == 0))) rfl) rfl rfl rfl ?_
    refine o_and (p := 79) 4 (decide (0 < ((Rg.rem l s).length : Int))) ?_ ?_ ?_
    · intro hb29 hk
      simp only [Bool.and_eq_true, beq_iff_eq] at hb29
      refine o_unguard 75 rfl rfl ?_
      refine o_pure (p_move (v := .slice a25 (Rg.rem l s).length c26) rfl) rfl rfl rfl ?_
      refine o_unguard 75 rfl rfl ?_
      refine o_pure (p_len_slice (len := (Rg.rem l s).length) rfl rfl Try.underlying22) rfl rfl rfl ?_
      refine o_unguard 75 rfl rfl ?_
      refine o_pure (p_gt (p := ((Rg.rem l s).length : Int)) (q := 0) rfl rfl) rfl rfl rfl ?_
      refine o_pure (p_pick_true (u := .bool (decide (0 < ((Rg.rem l s).length : Int)))) rfl rfl) rfl rfl rfl ?_
      exact o_sub (Sub.cons rfl (Sub.skip rfl (Sub.skip rfl (Sub.skip rfl (Sub.skip rfl (Sub.skip rfl (Sub.refl _))))))) hk
    · intro hb29 hk
      refine o_guard_no rfl 75 rfl rfl rfl rfl rfl ?_
      refine o_guard_no rfl 75 rfl rfl rfl rfl rfl ?_
      refine o_guard_no rfl 75 rfl rfl rfl rfl rfl ?_
      refine o_pure (p_pick_false (v := .bool false) rfl rfl) rfl rfl rfl ?_
      exact o_sub (Sub.cons rfl (Sub.skip rfl (Sub.skip rfl (Sub.skip rfl (Sub.skip rfl (Sub.skip rfl (Sub.refl _))))))) hk
    refine o_nil ?_
    refine q_then ?_
    refine c_cond (b := ((((Rg.remErr l s) == 0) && ((Rg.ownErr l a) == 0)) && decide (0 < ((Rg.rem l s).length : Int)))) rfl (fun hc30 => ?_) (fun hc30 => ?_)
    · simp only [Bool.and_eq_true, beq_iff_eq, decide_eq_true_eq] at hc30
      have hmv := Rg.moves2 hc30.1.1 hc30.1.2 (by omega)
      refine c_seq ?_
      refine c_region ?_
      refine o_pure (p_move (v := .slice a25 (Rg.rem l s).length c26) rfl) rfl rfl rfl ?_
      refine o_pure (p_move (v := .int .i64 a) rfl) rfl rfl rfl ?_
      refine o_call0 (v := .tuple #[.int .i64 (Rg.owner (Rg.rem l s) a), .int .i64 (Rg.ownErr (Rg.rem l s) a)]) rfl (rowner_ok (Rg.rem l s) a25 c26 a) hf15 (fun w hw => (rd_own (i := 0) rfl) w hw) rfl ?_
      refine o_pure (p_move (v := .tuple #[.int .i64 (Rg.owner (Rg.rem l s) a), .int .i64 (Rg.ownErr (Rg.rem l s) a)]) rfl) rfl rfl rfl ?_
      refine o_pure (p_extract (vs := [.int .i64 (Rg.owner (Rg.rem l s) a), .int .i64 (Rg.ownErr (Rg.rem l s) a)]) (v := .int .i64 (Rg.owner (Rg.rem l s) a)) rfl rfl) rfl rfl rfl ?_
      refine o_pure (p_extract (vs := [.int .i64 (Rg.owner (Rg.rem l s) a), .int .i64 (Rg.ownErr (Rg.rem l s) a)]) (v := .int .i64 (Rg.ownErr (Rg.rem l s) a)) rfl rfl) rfl rfl rfl ?_
      refine o_pure (p_assign (v := .int .i64 (Rg.owner (Rg.rem l s) a)) rfl) rfl rfl rfl ?_
      refine o_pure (p_assign (v := .int .i64 (Rg.ownErr (Rg.rem l s) a)) rfl) rfl rfl rfl ?_
      refine o_nil ?_
      refine q_then ?_
      refine c_seq ?_
      refine c_region ?_
      refine o_pure (p_move (v := .int .i64 (Rg.ownErr (Rg.rem l s) a)) rfl) rfl rfl rfl ?_
      refine o_pure (p_ne (p := (Rg.ownErr (Rg.rem l s) a)) (q := 0) rfl rfl) rfl rfl rfl ?_
      refine o_pure (p_move (v := .bool ((Rg.ownErr (Rg.rem l s) a) != 0)) rfl) rfl rfl rfl ?_
      refine o_or (p := 97) 9 (((Rg.owner l a) != (Rg.owner (Rg.rem l s) a)) && ((Rg.owner l a) != s)) ?_ ?_ ?_
      · intro hb31 hk
        simp only [bne_eq_false_iff_eq] at hb31
        refine o_unguard 88 rfl rfl ?_
        refine o_pure (p_move (v := .int .i64 (Rg.owner l a)) rfl) rfl rfl rfl ?_
        refine o_unguard 88 rfl rfl ?_
        refine o_pure (p_move (v := .int .i64 (Rg.owner (Rg.rem l s) a)) rfl) rfl rfl rfl ?_
        refine o_unguard 88 rfl rfl ?_
        refine o_pure (p_ne (p := (Rg.owner l a)) (q := (Rg.owner (Rg.rem l s) a)) rfl rfl) rfl rfl rfl ?_
        refine o_unguard 88 rfl rfl ?_
        refine o_pure (p_move (v := .bool ((Rg.owner l a) != (Rg.owner (Rg.rem l s) a))) rfl) rfl rfl rfl ?_
        refine o_and (p := 96) 4 ((Rg.owner l a) != s) ?_ ?_ ?_
        · intro hb32 hk
          simp only [bne_iff_ne, ne_eq] at hb32
          refine o_unguard 92 rfl rfl ?_
          refine o_pure (p_move (v := .int .i64 (Rg.owner l a)) rfl) rfl rfl rfl ?_
          refine o_unguard 92 rfl rfl ?_
          refine o_pure (p_move (v := .int .i64 s) rfl) rfl rfl rfl ?_
          refine o_unguard 92 rfl rfl ?_
          refine o_pure (p_ne (p := (Rg.owner l a)) (q := s) rfl rfl) rfl rfl rfl ?_
          refine o_unguard 88 rfl rfl ?_
          refine o_pure (p_pick_true (u := .bool ((Rg.owner l a) != s)) rfl rfl) rfl rfl rfl ?_
          exact o_sub (Sub.cons rfl (Sub.skip rfl (Sub.skip rfl (Sub.skip rfl (Sub.skip rfl (Sub.skip rfl (Sub.refl _))))))) hk
        · intro hb32 hk
          refine o_guard_no rfl 92 rfl rfl rfl rfl rfl ?_
          refine o_guard_no rfl 92 rfl rfl rfl rfl rfl ?_
          refine o_guard_no rfl 92 rfl rfl rfl rfl rfl ?_
          refine o_unguard 88 rfl rfl ?_
          refine o_pure (p_pick_false (v := .bool false) rfl rfl) rfl rfl rfl ?_
          exact o_sub (Sub.cons rfl (Sub.skip rfl (Sub.skip rfl (Sub.skip rfl (Sub.skip rfl (Sub.skip rfl (Sub.refl _))))))) hk
        refine o_pure (p_pick_false (v := .bool (((Rg.owner l a) != (Rg.owner (Rg.rem l s) a)) && ((Rg.owner l a) != s))) rfl rfl) rfl rfl rfl ?_
        exact o_sub (Sub.cons rfl (Sub.skip rfl (Sub.skip rfl (Sub.skip rfl (Sub.skip rfl (Sub.skip rfl (Sub.skip rfl (Sub.refl _)))))))) hk
      · intro hb31 hk
        refine o_guard_no rfl 88 rfl rfl rfl rfl rfl ?_
        refine o_guard_no rfl 88 rfl rfl rfl rfl rfl ?_
        refine o_guard_no rfl 88 rfl rfl rfl rfl rfl ?_
        refine o_guard_no rfl 88 rfl rfl rfl rfl rfl ?_
        refine o_guard_no rfl 92 rfl rfl rfl rfl rfl ?_
        refine o_guard_no rfl 92 rfl rfl rfl rfl rfl ?_
        refine o_guard_no rfl 92 rfl rfl rfl rfl rfl ?_
        refine o_guard_no rfl 88 rfl rfl rfl rfl rfl ?_
        refine o_pure (p_pick_true (u := .bool true) rfl rfl) rfl rfl rfl ?_
        exact o_sub (Sub.cons rfl (Sub.skip rfl (Sub.skip rfl (Sub.skip rfl (Sub.skip rfl (Sub.skip rfl (Sub.skip rfl (Sub.skip rfl (Sub.skip rfl (Sub.skip rfl (Sub.skip rfl (Sub.refl _)))))))))))) hk
      refine o_pure (p_move (v := .bool (((Rg.ownErr (Rg.rem l s) a) != 0) || (((Rg.owner l a) != (Rg.owner (Rg.rem l s) a)) && ((Rg.owner l a) != s)))) rfl) rfl rfl rfl ?_
      refine o_or (p := 102) 4 ((Rg.owner (Rg.rem l s) a) == s) ?_ ?_ ?_
      · intro hb33 hk
        simp only [Bool.or_eq_false_iff, bne_eq_false_iff_eq, Bool.and_eq_false_iff] at hb33
        refine o_unguard 98 rfl rfl ?_
        refine o_pure (p_move (v := .int .i64 (Rg.owner (Rg.rem l s) a)) rfl) rfl rfl rfl ?_
        refine o_unguard 98 rfl rfl ?_
        refine o_pure (p_move (v := .int .i64 s) rfl) rfl rfl rfl ?_
        refine o_unguard 98 rfl rfl ?_
        refine o_pure (p_eq (p := (Rg.owner (Rg.rem l s) a)) (q := s) rfl rfl) rfl rfl rfl ?_
        refine o_pure (p_pick_false (v := .bool ((Rg.owner (Rg.rem l s) a) == s)) rfl rfl) rfl rfl rfl ?_
        exact o_sub (Sub.cons rfl (Sub.skip rfl (Sub.skip rfl (Sub.skip rfl (Sub.skip rfl (Sub.skip rfl (Sub.refl _))))))) hk
      · intro hb33 hk
        refine o_guard_no rfl 98 rfl rfl rfl rfl rfl ?_
        refine o_guard_no rfl 98 rfl rfl rfl rfl rfl ?_
        refine o_guard_no rfl 98 rfl rfl rfl rfl rfl ?_
        refine o_pure (p_pick_true (u := .bool true) rfl rfl) rfl rfl rfl ?_
        exact o_sub (Sub.cons rfl (Sub.skip rfl (Sub.skip rfl (Sub.skip rfl (Sub.skip rfl (Sub.skip rfl (Sub.refl _))))))) hk
      refine o_nil ?_
      refine q_then ?_
      refine c_cond (b := ((((Rg.ownErr (Rg.rem l s) a) != 0) || (((Rg.owner l a) != (Rg.owner (Rg.rem l s) a)) && ((Rg.owner l a) != s))) || ((Rg.owner (Rg.rem l s) a) == s))) rfl (fun hc34 => ?_) (fun hc34 => ?_)
      · simp only [Bool.or_eq_true, bne_iff_ne, ne_eq, Bool.and_eq_true, beq_iff_eq] at hc34
        exfalso; have hmw := hc34; first | omega | (simp_all; done) | (rcases hmv with ⟨m1, m2, m3⟩; rcases m2 with m2 | m2 <;> omega) | grind
      · simp only [Bool.or_eq_false_iff, bne_eq_false_iff_eq, Bool.and_eq_false_iff, beq_eq_false_iff_ne, ne_eq] at hc34
        refine c_skip ?_
        refine q_then ?_
        refine c_seq ?_
        refine c_region ?_
        refine o_pure (p_assign (v := .bool true) rfl) rfl rfl rfl ?_
        refine o_nil ?_
        refine q_then ?_
        refine c_ret ?_
        refine q_end0 (v := .bool true) (rt1 rfl (r_tmp rfl)) (i := 2) rfl ?_
        exact rfl
    · simp only [Bool.and_eq_false_iff, beq_eq_false_iff_ne, ne_eq, decide_eq_false_iff_not, Int.not_lt] at hc30
      refine c_skip ?_
      refine q_then ?_
      refine c_seq ?_
      refine c_region ?_
      refine o_pure (p_assign (v := .bool true) rfl) rfl rfl rfl ?_
      refine o_nil ?_
      refine q_then ?_
      refine c_ret ?_
      refine q_end0 (v := .bool true) (rt1 rfl (r_tmp rfl)) (i := 2) rfl ?_
      exact rfl
end Go.Proofs.Ytgjdmnljnimamaa
