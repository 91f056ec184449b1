/- The walks, printed by a program from the translation and a specification. -/
import Derived.Test.YtgjdmnljnimamaaRgF
import Derived.Test.YtgjdmnljnimamaaRgLaw3
import Derived.Test.YtgjdmnljnimamaaRgW9
namespace Go.Proofs.Ytgjdmnljnimamaa
open Go.Sx Go.RowKit
set_option maxHeartbeats 8000000 in
set_option maxRecDepth 100000 in
theorem ringRestores_ok (l : List DPoint) (al : Option Addr) (cl : Nat) (s : Int) (ps : List Int) (aps : Option Addr) (cps : Nat) : Fn0 Try.prog 6 [.slice al l.length cl, .int .i64 s, .slice aps ps.length cps] (fun w => Rd tPoint w al cl l ∧ Rd tInt w aps cps ps) (.bool true) := by
  refine fn0 (nt := 59) (F0 := [(0, .slice al l.length cl), (1, .int .i64 s), (2, .slice aps ps.length cps)]) Try.func6 rfl Try.ntmps6 rfl rfl (fun w0 hpre => ?_)
  obtain ⟨hl, hps⟩ := hpre
  have hlhl := hl.2.1
  have hlhps := hps.2.1
  refine c_seq ?_
  refine c_region ?_
  refine o_pure (p_assign (v := .bool false) rfl) rfl rfl rfl ?_
  refine o_nil ?_
  refine q_then ?_
  refine c_seq ?_
  refine c_region ?_
  refine o_pure (p_move (v := .slice al l.length cl) rfl) rfl rfl rfl ?_
  refine o_pure (p_move (v := .int .i64 s) rfl) rfl rfl rfl ?_
  refine o_pure (p_move (v := .slice aps ps.length cps) rfl) rfl rfl rfl ?_
  refine o_callM rfl (radd_ok l al cl s ps aps cps) hf16 (fun w hw => ⟨(rd_base (i := 0) rfl hl) w hw, (rd_base (i := 0) rfl hps) w hw⟩) rfl (fun _ _ _ _ ha hA => SlO.agree ha hA) ?_
  rintro ⟨a3, c4⟩ S1
  refine o_know (fun w hw => own_len (i := 0) (T := tPoint) hw rfl) (fun hlr5 => ?_)
  refine o_pure (p_move (v := .tuple #[.slice a3 (Rg.add l s ps).length c4, .int .i64 (Rg.addErr l s ps)]) rfl) rfl rfl rfl ?_
  refine o_pure (p_extract (vs := [.slice a3 (Rg.add l s ps).length c4, .int .i64 (Rg.addErr l s ps)]) (v := .slice a3 (Rg.add l s ps).length c4) rfl rfl) rfl rfl rfl ?_
  refine o_pure (p_extract (vs := [.slice a3 (Rg.add l s ps).length c4, .int .i64 (Rg.addErr l s ps)]) (v := .int .i64 (Rg.addErr l s ps)) rfl rfl) rfl rfl rfl ?_
  refine o_pure (p_assign (v := .slice a3 (Rg.add l s ps).length c4) rfl) rfl rfl rfl ?_
  refine o_pure (p_assign (v := .int .i64 (Rg.addErr l s ps)) rfl) rfl rfl rfl ?_
  refine o_nil ?_
  refine q_then ?_
  refine c_seq ?_
  refine c_region ?_
  refine o_pure (p_move (v := .slice al l.length cl) rfl) rfl rfl rfl ?_
  refine o_pure (p_move (v := .int .i64 s) rfl) rfl rfl rfl ?_
  refine o_callM rfl (rremove_ok l al cl s) hf17 (fun w hw => (rd_base (i := 1) rfl hl) w hw) rfl (fun _ _ _ _ ha hA => SlO.agree ha hA) ?_
  rintro ⟨a8, c9⟩ S6
  refine o_know (fun w hw => own_len (i := 0) (T := tPoint) hw rfl) (fun hlr10 => ?_)
  refine o_pure (p_move (v := .tuple #[.slice a8 (Rg.rem l s).length c9, .int .i64 (Rg.remErr l s)]) rfl) rfl rfl rfl ?_
  refine o_pure (p_extract (vs := [.slice a8 (Rg.rem l s).length c9, .int .i64 (Rg.remErr l s)]) (v := .slice a8 (Rg.rem l s).length c9) rfl rfl) rfl rfl rfl ?_
  refine o_pure (p_extract (vs := [.slice a8 (Rg.rem l s).length c9, .int .i64 (Rg.remErr l s)]) (v := .int .i64 (Rg.remErr l s)) rfl rfl) rfl rfl rfl ?_
  refine o_pure (p_assign (v := .slice a8 (Rg.rem l s).length c9) rfl) rfl rfl rfl ?_
  refine o_pure (p_assign (v := .int .i64 (Rg.remErr l s)) rfl) rfl rfl rfl ?_
  refine o_nil ?_
  refine q_then ?_
  refine c_seq ?_
  refine c_seq ?_
  refine c_region ?_
  refine o_call0 (v := .bool true) rfl (ringBegun_ok ) hf23 (fun _ _ => trivial) rfl ?_
  refine o_pure (p_not (b := true) rfl) rfl rfl rfl ?_
  refine o_nil ?_
  refine q_then ?_
  refine c_false rfl ?_
  refine c_skip ?_
  refine q_then ?_
  refine c_seq ?_
  refine c_seq ?_
  refine c_region ?_
  refine o_pure (p_move (v := .int .i64 (Rg.addErr l s ps)) rfl) rfl rfl rfl ?_
  refine o_pure (p_ne (p := (Rg.addErr l s ps)) (q := 0) rfl rfl) rfl rfl rfl ?_
  refine o_pure (p_move (v := .bool ((Rg.addErr l s ps) != 0)) rfl) rfl rfl rfl ?_
  refine o_or (p := 33) 3 ((Rg.remErr l s) != 5) ?_ ?_ ?_
  · intro hb11 hk
    simp only [bne_eq_false_iff_eq] at hb11
    refine o_unguard 30 rfl rfl ?_
    refine o_pure (p_move (v := .int .i64 (Rg.remErr l s)) rfl) rfl rfl rfl ?_
    refine o_unguard 30 rfl rfl ?_
    refine o_pure (p_ne (p := (Rg.remErr l s)) (q := 5) rfl rfl) rfl rfl rfl ?_
    refine o_pure (p_pick_false (v := .bool ((Rg.remErr l s) != 5)) rfl rfl) rfl rfl rfl ?_
    exact o_sub (Sub.cons rfl (Sub.skip rfl (Sub.skip rfl (Sub.skip rfl (Sub.skip rfl (Sub.refl _)))))) hk
  · intro hb11 hk
    refine o_guard_no rfl 30 rfl rfl rfl rfl rfl ?_
    refine o_guard_no rfl 30 rfl rfl rfl rfl rfl ?_
    refine o_pure (p_pick_true (u := .bool true) rfl rfl) rfl rfl rfl ?_
    exact o_sub (Sub.cons rfl (Sub.skip rfl (Sub.skip rfl (Sub.skip rfl (Sub.skip rfl (Sub.refl _)))))) hk
  refine o_pure (p_move (v := .bool (((Rg.addErr l s ps) != 0) || ((Rg.remErr l s) != 5))) rfl) rfl rfl rfl ?_
  refine o_or (p := 38) 4 ((ps.length : Int) == 0) ?_ ?_ ?_
  · intro hb12 hk
    simp only [Bool.or_eq_false_iff, bne_eq_false_iff_eq] at hb12
    refine o_unguard 34 rfl rfl ?_
    refine o_pure (p_move (v := .slice aps ps.length cps) rfl) rfl rfl rfl ?_
    refine o_unguard 34 rfl rfl ?_
    refine o_pure (p_len_slice (len := ps.length) rfl rfl Try.underlying23) rfl rfl rfl ?_
    refine o_unguard 34 rfl rfl ?_
    refine o_pure (p_eq (p := (ps.length : Int)) (q := 0) rfl rfl) rfl rfl rfl ?_
    refine o_pure (p_pick_false (v := .bool ((ps.length : Int) == 0)) rfl rfl) rfl rfl rfl ?_
    exact o_sub (Sub.cons rfl (Sub.skip rfl (Sub.skip rfl (Sub.skip rfl (Sub.skip rfl (Sub.skip rfl (Sub.refl _))))))) hk
  · intro hb12 hk
    refine o_guard_no rfl 34 rfl rfl rfl rfl rfl ?_
    refine o_guard_no rfl 34 rfl rfl rfl rfl rfl ?_
    refine o_guard_no rfl 34 rfl rfl rfl rfl rfl ?_
    refine o_pure (p_pick_true (u := .bool true) rfl rfl) rfl rfl rfl ?_
    exact o_sub (Sub.cons rfl (Sub.skip rfl (Sub.skip rfl (Sub.skip rfl (Sub.skip rfl (Sub.skip rfl (Sub.refl _))))))) hk
  refine o_nil ?_
  refine q_then ?_
  refine c_cond (b := ((((Rg.addErr l s ps) != 0) || ((Rg.remErr l s) != 5)) || ((ps.length : Int) == 0))) rfl (fun hc13 => ?_) (fun hc13 => ?_)
  · simp only [Bool.or_eq_true, bne_iff_ne, ne_eq, beq_iff_eq] at hc13
    have hbad := hc13
    refine c_seq ?_
    refine c_region ?_
    refine o_pure (p_move (v := .int .i64 (Rg.addErr l s ps)) rfl) rfl rfl rfl ?_
    refine o_pure (p_eq (p := (Rg.addErr l s ps)) (q := 0) rfl rfl) rfl rfl rfl ?_
    refine o_pure (p_move (v := .bool ((Rg.addErr l s ps) == 0)) rfl) rfl rfl rfl ?_
    refine o_or (p := 45) 4 (((Rg.add l s ps).length : Int) == 0) ?_ ?_ ?_
    · intro hb14 hk
      simp only [beq_eq_false_iff_ne, ne_eq] at hb14
      refine o_unguard 41 rfl rfl ?_
      refine o_pure (p_move (v := .slice a3 (Rg.add l s ps).length c4) rfl) rfl rfl rfl ?_
      refine o_unguard 41 rfl rfl ?_
      refine o_pure (p_len_slice (len := (Rg.add l s ps).length) rfl rfl Try.underlying22) rfl rfl rfl ?_
      refine o_unguard 41 rfl rfl ?_
      refine o_pure (p_eq (p := ((Rg.add l s ps).length : Int)) (q := 0) rfl rfl) rfl rfl rfl ?_
      refine o_pure (p_pick_false (v := .bool (((Rg.add l s ps).length : Int) == 0)) rfl rfl) rfl rfl rfl ?_
      exact o_sub (Sub.cons rfl (Sub.skip rfl (Sub.skip rfl (Sub.skip rfl (Sub.skip rfl (Sub.skip rfl (Sub.refl _))))))) hk
    · intro hb14 hk
      refine o_guard_no rfl 41 rfl rfl rfl rfl rfl ?_
      refine o_guard_no rfl 41 rfl rfl rfl rfl rfl ?_
      refine o_guard_no rfl 41 rfl rfl rfl rfl rfl ?_
      refine o_pure (p_pick_true (u := .bool true) rfl rfl) rfl rfl rfl ?_
      exact o_sub (Sub.cons rfl (Sub.skip rfl (Sub.skip rfl (Sub.skip rfl (Sub.skip rfl (Sub.skip rfl (Sub.refl _))))))) hk
    refine o_pure (p_assign (v := .bool (((Rg.addErr l s ps) == 0) || (((Rg.add l s ps).length : Int) == 0))) rfl) rfl rfl rfl ?_
    refine o_nil ?_
    refine q_then ?_
    refine c_ret ?_
    refine q_then_ret ?_
    have hr0 : ((((Rg.addErr l s ps) == 0) || (((Rg.add l s ps).length : Int) == 0)) : Bool) = true := by
      first | rfl | (rw [hr1, hr2]; simp; done) | (by_cases h9 : Rg.addErr l s ps = 0; simp [h9]; rw [show Rg.add l s ps = [] from if_neg h9]; simp)
    refine q_end0 (v := .bool (((Rg.addErr l s ps) == 0) || (((Rg.add l s ps).length : Int) == 0))) (rt1 rfl (r_tmp rfl)) (i := 2) rfl ?_
    exact (by have hcc := congrArg (fun (y0 : Bool) => (.bool y0 : Value)) hr0; exact hcc)
  · simp only [Bool.or_eq_false_iff, bne_eq_false_iff_eq, beq_eq_false_iff_ne, ne_eq] at hc13
    have hfi := hc13
    obtain ⟨hr1, hr2⟩ := Rg.restores (l := l) (s := s) (ps := ps) (by omega) (by omega) (by rintro rfl; simp at hfi)
    refine c_skip ?_
    refine q_then ?_
    refine c_seq ?_
    refine c_region ?_
    refine o_pure (p_move (v := .slice a3 (Rg.add l s ps).length c4) rfl) rfl rfl rfl ?_
    refine o_pure (p_move (v := .int .i64 s) rfl) rfl rfl rfl ?_
    refine o_callM rfl (rremove_ok (Rg.add l s ps) a3 c4 s) hf17 (fun w hw => (rd_own (i := 1) rfl) w hw) rfl (fun _ _ _ _ ha hA => SlO.agree ha hA) ?_
    rintro ⟨a17, c18⟩ S15
    refine o_know (fun w hw => own_len (i := 0) (T := tPoint) hw rfl) (fun hlr19 => ?_)
    refine o_pure (p_move (v := .tuple #[.slice a17 (Rg.rem (Rg.add l s ps) s).length c18, .int .i64 (Rg.remErr (Rg.add l s ps) s)]) rfl) rfl rfl rfl ?_
    refine o_pure (p_extract (vs := [.slice a17 (Rg.rem (Rg.add l s ps) s).length c18, .int .i64 (Rg.remErr (Rg.add l s ps) s)]) (v := .slice a17 (Rg.rem (Rg.add l s ps) s).length c18) rfl rfl) rfl rfl rfl ?_
    refine o_pure (p_extract (vs := [.slice a17 (Rg.rem (Rg.add l s ps) s).length c18, .int .i64 (Rg.remErr (Rg.add l s ps) s)]) (v := .int .i64 (Rg.remErr (Rg.add l s ps) s)) rfl rfl) rfl rfl rfl ?_
    refine o_pure (p_assign (v := .slice a17 (Rg.rem (Rg.add l s ps) s).length c18) rfl) rfl rfl rfl ?_
    refine o_pure (p_assign (v := .int .i64 (Rg.remErr (Rg.add l s ps) s)) rfl) rfl rfl rfl ?_
    refine o_nil ?_
    refine q_then ?_
    refine c_seq ?_
    refine c_region ?_
    refine o_pure (p_move (v := .int .i64 (Rg.remErr (Rg.add l s ps) s)) rfl) rfl rfl rfl ?_
    refine o_pure (p_eq (p := (Rg.remErr (Rg.add l s ps) s)) (q := 0) rfl rfl) rfl rfl rfl ?_
    refine o_pure (p_move (v := .bool ((Rg.remErr (Rg.add l s ps) s) == 0)) rfl) rfl rfl rfl ?_
    refine o_and (p := 58) 4 (decide ((Rg.rem (Rg.add l s ps) s) = l)) ?_ ?_ ?_
    · intro hb20 hk
      simp only [beq_iff_eq] at hb20
      refine o_unguard 54 rfl rfl ?_
      refine o_pure (p_move (v := .slice a17 (Rg.rem (Rg.add l s ps) s).length c18) rfl) rfl rfl rfl ?_
      refine o_unguard 54 rfl rfl ?_
      refine o_pure (p_move (v := .slice al l.length cl) rfl) rfl rfl rfl ?_
      refine o_unguard 54 rfl rfl ?_
      refine o_call0 (v := .bool (decide ((Rg.rem (Rg.add l s ps) s) = l))) rfl (samePoints_ok (Rg.rem (Rg.add l s ps) s) a17 c18 l al cl) hf25 (fun w hw => ⟨(rd_own (i := 0) rfl) w hw, (rd_base (i := 3) rfl hl) w hw⟩) rfl ?_
      refine o_pure (p_pick_true (u := .bool (decide ((Rg.rem (Rg.add l s ps) s) = l))) rfl rfl) rfl rfl rfl ?_
      exact o_sub (Sub.cons rfl (Sub.skip rfl (Sub.skip rfl (Sub.skip rfl (Sub.skip rfl (Sub.skip rfl (Sub.refl _))))))) hk
    · intro hb20 hk
      refine o_guard_no rfl 54 rfl rfl rfl rfl rfl ?_
      refine o_guard_no rfl 54 rfl rfl rfl rfl rfl ?_
      refine o_guard_no rfl 54 rfl rfl rfl rfl rfl ?_
      refine o_pure (p_pick_false (v := .bool false) rfl rfl) rfl rfl rfl ?_
      exact o_sub (Sub.cons rfl (Sub.skip rfl (Sub.skip rfl (Sub.skip rfl (Sub.skip rfl (Sub.skip rfl (Sub.refl _))))))) hk
    refine o_pure (p_assign (v := .bool (((Rg.remErr (Rg.add l s ps) s) == 0) && (decide ((Rg.rem (Rg.add l s ps) s) = l)))) rfl) rfl rfl rfl ?_
    refine o_nil ?_
    refine q_then ?_
    refine c_ret ?_
    have hr0 : ((((Rg.remErr (Rg.add l s ps) s) == 0) && (decide ((Rg.rem (Rg.add l s ps) s) = l))) : Bool) = true := by
      first | rfl | (rw [hr1, hr2]; simp; done) | (by_cases h9 : Rg.addErr l s ps = 0; simp [h9]; rw [show Rg.add l s ps = [] from if_neg h9]; simp)
    refine q_end0 (v := .bool (((Rg.remErr (Rg.add l s ps) s) == 0) && (decide ((Rg.rem (Rg.add l s ps) s) = l)))) (rt1 rfl (r_tmp rfl)) (i := 3) rfl ?_
    exact (by have hcc := congrArg (fun (y0 : Bool) => (.bool y0 : Value)) hr0; exact hcc)
end Go.Proofs.Ytgjdmnljnimamaa
