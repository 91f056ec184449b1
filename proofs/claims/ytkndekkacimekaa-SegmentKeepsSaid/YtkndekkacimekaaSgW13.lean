/- The walks, printed by a program from the translation and a specification. -/
import Derived.Test.YtkndekkacimekaaSgF
import Derived.Test.YtkndekkacimekaaSgLaw
import Derived.Test.YtkndekkacimekaaSgW11
namespace Go.Proofs.Ytkndekkacimekaa
open Go.Sx Go.RowKit
set_option maxHeartbeats 8000000 in
set_option maxRecDepth 100000 in
theorem segmentScan_ok (h : DHalls) (ah_0 : Option Addr) (ch_0 : Nat) (ah_1 : Option Addr) (ch_1 : Nat) (l : List Int) (al : Option Addr) (cl : Nat) : Fn0 Try.prog 10 [.agg #[.int .i64 h.first, .int .i64 h.second, .slice ah_0 h.young.length ch_0, .slice ah_1 h.old.length ch_1], .slice al l.length cl] (fun w => Rd tInt w ah_0 ch_0 h.young ∧ Rd tInt w ah_1 ch_1 h.old ∧ Rd tInt w al cl l) (.bool true) := by
  refine fn0 (nt := 41) (F0 := [(0, .agg #[.int .i64 h.first, .int .i64 h.second, .slice ah_0 h.young.length ch_0, .slice ah_1 h.old.length ch_1]), (1, .slice al l.length cl)]) Try.func10 rfl Try.ntmps10 rfl rfl (fun w0 hpre => ?_)
  obtain ⟨hh_0, hh_1, hl⟩ := hpre
  have hlhh_0 := hh_0.2.1
  have hlhh_1 := hh_1.2.1
  have hlhl := hl.2.1
  refine c_seq ?_
  refine c_region ?_
  refine o_box (v := .agg #[.int .i64 h.first, .int .i64 h.second, .slice ah_0 h.young.length ch_0, .slice ah_1 h.old.length ch_1]) rfl rfl (fun B1 => ?_)
  refine o_pure (p_assign (v := .bool false) rfl) rfl rfl rfl ?_
  refine o_nil ?_
  refine q_then ?_
  refine c_seq ?_
  refine c_region ?_
  refine o_pure (p_load_agg (i := 0) (vs := [.int .i64 h.first, .int .i64 h.second, .slice ah_0 h.young.length ch_0, .slice ah_1 h.old.length ch_1]) rfl rfl sh58 rfl rfl) rfl rfl rfl ?_
  refine o_pure (p_move (v := .slice al l.length cl) rfl) rfl rfl rfl ?_
  refine o_callM rfl (srun_ok h ah_0 ch_0 ah_1 ch_1 l al cl) hf34 (fun w hw => ⟨(rd_base (i := 1) rfl hh_0) w hw, (rd_base (i := 1) rfl hh_1) w hw, (rd_base (i := 1) rfl hl) w hw⟩) rfl (fun _ _ _ _ ha hA => ⟨SlR.agree ha hA.1, SlR.agree ha hA.2⟩) ?_
  rintro ⟨a4, c5, a6, c7⟩ S2
  refine o_know (fun w hw => (hw.at (i := 0) rfl).here.1.2.1) (fun hlr8 => ?_)
  refine o_know (fun w hw => (hw.at (i := 0) rfl).here.2.2.1) (fun hlr9 => ?_)
  refine o_pure (p_move (v := .tuple #[.agg #[.int .i64 (((Seg.run h l).1).first), .int .i64 (((Seg.run h l).1).second), .slice a4 (((Seg.run h l).1).young).length c5, .slice a6 (((Seg.run h l).1).old).length c7], .int .i64 ((Seg.run h l).2), .int .i64 (Seg.runErr h l)]) rfl) rfl rfl rfl ?_
  refine o_pure (p_extract (vs := [.agg #[.int .i64 (((Seg.run h l).1).first), .int .i64 (((Seg.run h l).1).second), .slice a4 (((Seg.run h l).1).young).length c5, .slice a6 (((Seg.run h l).1).old).length c7], .int .i64 ((Seg.run h l).2), .int .i64 (Seg.runErr h l)]) (v := .agg #[.int .i64 (((Seg.run h l).1).first), .int .i64 (((Seg.run h l).1).second), .slice a4 (((Seg.run h l).1).young).length c5, .slice a6 (((Seg.run h l).1).old).length c7]) rfl rfl) rfl rfl rfl ?_
  refine o_pure (p_extract (vs := [.agg #[.int .i64 (((Seg.run h l).1).first), .int .i64 (((Seg.run h l).1).second), .slice a4 (((Seg.run h l).1).young).length c5, .slice a6 (((Seg.run h l).1).old).length c7], .int .i64 ((Seg.run h l).2), .int .i64 (Seg.runErr h l)]) (v := .int .i64 ((Seg.run h l).2)) rfl rfl) rfl rfl rfl ?_
  refine o_pure (p_extract (vs := [.agg #[.int .i64 (((Seg.run h l).1).first), .int .i64 (((Seg.run h l).1).second), .slice a4 (((Seg.run h l).1).young).length c5, .slice a6 (((Seg.run h l).1).old).length c7], .int .i64 ((Seg.run h l).2), .int .i64 (Seg.runErr h l)]) (v := .int .i64 (Seg.runErr h l)) rfl rfl) rfl rfl rfl ?_
  refine o_alloc ze58 rfl (fun B10 => ?_)
  refine o_storeN (i := 0) (vs := [.int .i64 (((Seg.run h l).1).first), .int .i64 (((Seg.run h l).1).second), .slice a4 (((Seg.run h l).1).young).length c5, .slice a6 (((Seg.run h l).1).old).length c7]) (cs' := [.int .i64 (((Seg.run h l).1).first), .int .i64 (((Seg.run h l).1).second), .slice a4 (((Seg.run h l).1).young).length c5, .slice a6 (((Seg.run h l).1).old).length c7]) rfl rfl rfl sz58 rfl rfl rfl rfl ?_
  refine o_pure (p_assign (v := .int .i64 ((Seg.run h l).2)) rfl) rfl rfl rfl ?_
  refine o_pure (p_assign (v := .int .i64 (Seg.runErr h l)) rfl) rfl rfl rfl ?_
  refine o_nil ?_
  refine q_then ?_
  refine c_seq ?_
  refine c_seq ?_
  refine c_region ?_
  refine o_call0 (v := .bool true) rfl (hallsBegun_ok ) hf40 (fun _ _ => trivial) rfl ?_
  refine o_pure (p_not (b := true) rfl) rfl rfl rfl ?_
  refine o_nil ?_
  refine q_then ?_
  refine c_false rfl ?_
  refine c_skip ?_
  refine q_then ?_
  refine c_seq ?_
  refine c_seq ?_
  refine c_region ?_
  refine o_pure (p_move (v := .int .i64 (Seg.runErr h l)) rfl) rfl rfl rfl ?_
  refine o_pure (p_ne (p := (Seg.runErr h l)) (q := 0) rfl rfl) rfl rfl rfl ?_
  refine o_pure (p_move (v := .bool ((Seg.runErr h l) != 0)) rfl) rfl rfl rfl ?_
  refine o_or (p := 22) 3 (decide (0 < ((Seg.run h l).2))) ?_ ?_ ?_
  · intro hb11 hk
    simp only [bne_eq_false_iff_eq] at hb11
    refine o_unguard 19 rfl rfl ?_
    refine o_pure (p_move (v := .int .i64 ((Seg.run h l).2)) rfl) rfl rfl rfl ?_
    refine o_unguard 19 rfl rfl ?_
    refine o_pure (p_gt (p := ((Seg.run h l).2)) (q := 0) rfl rfl) rfl rfl rfl ?_
    refine o_pure (p_pick_false (v := .bool (decide (0 < ((Seg.run h l).2)))) rfl rfl) rfl rfl rfl ?_
    exact o_sub (Sub.cons rfl (Sub.skip rfl (Sub.skip rfl (Sub.skip rfl (Sub.skip rfl (Sub.refl _)))))) hk
  · intro hb11 hk
    refine o_guard_no rfl 19 rfl rfl rfl rfl rfl ?_
    refine o_guard_no rfl 19 rfl rfl rfl rfl rfl ?_
    refine o_pure (p_pick_true (u := .bool true) rfl rfl) rfl rfl rfl ?_
    exact o_sub (Sub.cons rfl (Sub.skip rfl (Sub.skip rfl (Sub.skip rfl (Sub.skip rfl (Sub.refl _)))))) hk
  refine o_nil ?_
  refine q_then ?_
  refine c_cond (b := (((Seg.runErr h l) != 0) || decide (0 < ((Seg.run h l).2)))) rfl (fun hc12 => ?_) (fun hc12 => ?_)
  · simp only [Bool.or_eq_true, bne_iff_ne, ne_eq, decide_eq_true_eq] at hc12
    refine c_seq ?_
    refine c_region ?_
    refine o_pure (p_assign (v := .bool true) rfl) rfl rfl rfl ?_
    refine o_nil ?_
    refine q_then ?_
    refine c_ret ?_
    refine q_then_ret ?_
    refine q_end0 (v := .bool true) (rt1 rfl (r_tmp rfl)) (i := 3) rfl ?_
    exact rfl
  · simp only [Bool.or_eq_false_iff, bne_eq_false_iff_eq, decide_eq_false_iff_not, Int.not_lt] at hc12
    obtain ⟨m1, m2, m3⟩ := Seg.scan_law hc12.1 hc12.2
    refine c_skip ?_
    refine q_then ?_
    refine c_seq ?_
    refine c_region ?_
    refine o_pure (p_fieldAddr (B := B10) (j := 0) (j' := 3) rfl fo58_3 rfl) rfl rfl rfl ?_
    refine o_pure (p_load (i := 0) (v := .slice a6 (((Seg.run h l).1).old).length c7) rfl rfl sh30 rfl) rfl rfl rfl ?_
    refine o_pure (p_fieldAddr (B := B1) (j := 0) (j' := 3) rfl fo58_3 rfl) rfl rfl rfl ?_
    refine o_pure (p_load (i := 2) (v := .slice ah_1 h.old.length ch_1) rfl rfl sh30 rfl) rfl rfl rfl ?_
    refine o_call0 (v := .bool (Ref.sameInts (((Seg.run h l).1).old) h.old)) rfl (sameInts_ok (((Seg.run h l).1).old) a6 c7 h.old ah_1 ch_1) hf27 (fun w hw => ⟨(rd_ent (i := 1) rfl (fun w h => h.2)) w hw, (rd_base (i := 3) rfl hh_1) w hw⟩) rfl ?_
    refine o_pure (p_move (v := .bool (Ref.sameInts (((Seg.run h l).1).old) h.old)) rfl) rfl rfl rfl ?_
    refine o_and (p := 35) 7 (decide (((((Seg.run h l).1).young).length : Int) ≤ h.first)) ?_ ?_ ?_
    · intro hb13 hk
      skip
      refine o_unguard 28 rfl rfl ?_
      refine o_pure (p_fieldAddr (B := B10) (j := 0) (j' := 2) rfl fo58_2 rfl) rfl rfl rfl ?_
      refine o_unguard 28 rfl rfl ?_
      refine o_pure (p_load (i := 0) (v := .slice a4 (((Seg.run h l).1).young).length c5) rfl rfl sh30 rfl) rfl rfl rfl ?_
      refine o_unguard 28 rfl rfl ?_
      refine o_pure (p_len_slice (len := (((Seg.run h l).1).young).length) rfl rfl Try.underlying30) rfl rfl rfl ?_
      refine o_unguard 28 rfl rfl ?_
      refine o_pure (p_fieldAddr (B := B1) (j := 0) (j' := 0) rfl fo58_0 rfl) rfl rfl rfl ?_
      refine o_unguard 28 rfl rfl ?_
      refine o_pure (p_load (i := 2) (v := .int .i64 h.first) rfl rfl sh3 rfl) rfl rfl rfl ?_
      refine o_unguard 28 rfl rfl ?_
      refine o_pure (p_le (p := ((((Seg.run h l).1).young).length : Int)) (q := h.first) rfl rfl) rfl rfl rfl ?_
      refine o_pure (p_pick_true (u := .bool (decide (((((Seg.run h l).1).young).length : Int) ≤ h.first))) rfl rfl) rfl rfl rfl ?_
      exact o_sub (Sub.cons rfl (Sub.skip rfl (Sub.skip rfl (Sub.skip rfl (Sub.skip rfl (Sub.skip rfl (Sub.skip rfl (Sub.skip rfl (Sub.skip rfl (Sub.refl _)))))))))) hk
    · intro hb13 hk
      refine o_guard_no rfl 28 rfl rfl rfl rfl rfl ?_
      refine o_guard_no rfl 28 rfl rfl rfl rfl rfl ?_
      refine o_guard_no rfl 28 rfl rfl rfl rfl rfl ?_
      refine o_guard_no rfl 28 rfl rfl rfl rfl rfl ?_
      refine o_guard_no rfl 28 rfl rfl rfl rfl rfl ?_
      refine o_guard_no rfl 28 rfl rfl rfl rfl rfl ?_
      refine o_pure (p_pick_false (v := .bool false) rfl rfl) rfl rfl rfl ?_
      exact o_sub (Sub.cons rfl (Sub.skip rfl (Sub.skip rfl (Sub.skip rfl (Sub.skip rfl (Sub.skip rfl (Sub.skip rfl (Sub.skip rfl (Sub.skip rfl (Sub.refl _)))))))))) hk
    refine o_pure (p_move (v := .bool ((Ref.sameInts (((Seg.run h l).1).old) h.old) && decide (((((Seg.run h l).1).young).length : Int) ≤ h.first))) rfl) rfl rfl rfl ?_
    refine o_and (p := 40) 4 ((Seg.check ((Seg.run h l).1)) == 0) ?_ ?_ ?_
    · intro hb14 hk
      simp only [Bool.and_eq_true, decide_eq_true_eq] at hb14
      refine o_unguard 36 rfl rfl ?_
      refine o_pure (p_load_agg (i := 0) (vs := [.int .i64 (((Seg.run h l).1).first), .int .i64 (((Seg.run h l).1).second), .slice a4 (((Seg.run h l).1).young).length c5, .slice a6 (((Seg.run h l).1).old).length c7]) rfl rfl sh58 rfl rfl) rfl rfl rfl ?_
      refine o_unguard 36 rfl rfl ?_
      refine o_call0 (v := .int .i64 (Seg.check ((Seg.run h l).1))) rfl (scheck_ok ((Seg.run h l).1) a4 c5 a6 c7) hf41 (fun w hw => ⟨(rd_ent (i := 1) rfl (fun w h => h.1)) w hw, (rd_ent (i := 1) rfl (fun w h => h.2)) w hw⟩) rfl ?_
      refine o_unguard 36 rfl rfl ?_
      refine o_pure (p_eq (p := (Seg.check ((Seg.run h l).1))) (q := 0) rfl rfl) rfl rfl rfl ?_
      refine o_pure (p_pick_true (u := .bool ((Seg.check ((Seg.run h l).1)) == 0)) rfl rfl) rfl rfl rfl ?_
      exact o_sub (Sub.cons rfl (Sub.skip rfl (Sub.skip rfl (Sub.skip rfl (Sub.skip rfl (Sub.skip rfl (Sub.refl _))))))) hk
    · intro hb14 hk
      refine o_guard_no rfl 36 rfl rfl rfl rfl rfl ?_
      refine o_guard_no rfl 36 rfl rfl rfl rfl rfl ?_
      refine o_guard_no rfl 36 rfl rfl rfl rfl rfl ?_
      refine o_pure (p_pick_false (v := .bool false) rfl rfl) rfl rfl rfl ?_
      exact o_sub (Sub.cons rfl (Sub.skip rfl (Sub.skip rfl (Sub.skip rfl (Sub.skip rfl (Sub.skip rfl (Sub.refl _))))))) hk
    refine o_pure (p_assign (v := .bool (((Ref.sameInts (((Seg.run h l).1).old) h.old) && decide (((((Seg.run h l).1).young).length : Int) ≤ h.first)) && ((Seg.check ((Seg.run h l).1)) == 0))) rfl) rfl rfl rfl ?_
    refine o_nil ?_
    refine q_then ?_
    refine c_ret ?_
    have hr0 : ((((Ref.sameInts (((Seg.run h l).1).old) h.old) && decide (((((Seg.run h l).1).young).length : Int) ≤ h.first)) && ((Seg.check ((Seg.run h l).1)) == 0)) : Bool) = true := by
      first | rfl | (simp [m1, m3, Ref.sameInts]; omega)
    refine q_end0 (v := .bool (((Ref.sameInts (((Seg.run h l).1).old) h.old) && decide (((((Seg.run h l).1).young).length : Int) ≤ h.first)) && ((Seg.check ((Seg.run h l).1)) == 0))) (rt1 rfl (r_tmp rfl)) (i := 3) rfl ?_
    exact (by have hcc := congrArg (fun (y0 : Bool) => (.bool y0 : Value)) hr0; exact hcc)

set_option maxHeartbeats 8000000 in
set_option maxRecDepth 100000 in
theorem segmentKeeps_ok (h : DHalls) (ah_0 : Option Addr) (ch_0 : Nat) (ah_1 : Option Addr) (ch_1 : Nat) (key : Int) : Fn0 Try.prog 11 [.agg #[.int .i64 h.first, .int .i64 h.second, .slice ah_0 h.young.length ch_0, .slice ah_1 h.old.length ch_1], .int .i64 key] (fun w => Rd tInt w ah_0 ch_0 h.young ∧ Rd tInt w ah_1 ch_1 h.old) (.bool true) := by
  refine fn0 (nt := 104) (F0 := [(0, .agg #[.int .i64 h.first, .int .i64 h.second, .slice ah_0 h.young.length ch_0, .slice ah_1 h.old.length ch_1]), (1, .int .i64 key)]) Try.func11 rfl Try.ntmps11 rfl rfl (fun w0 hpre => ?_)
  obtain ⟨hh_0, hh_1⟩ := hpre
  have hlhh_0 := hh_0.2.1
  have hlhh_1 := hh_1.2.1
  refine c_seq ?_
  refine c_region ?_
  refine o_box (v := .agg #[.int .i64 h.first, .int .i64 h.second, .slice ah_0 h.young.length ch_0, .slice ah_1 h.old.length ch_1]) rfl rfl (fun B1 => ?_)
  refine o_pure (p_assign (v := .bool false) rfl) rfl rfl rfl ?_
  refine o_nil ?_
  refine q_then ?_
  refine c_seq ?_
  refine c_region ?_
  refine o_pure (p_load_agg (i := 0) (vs := [.int .i64 h.first, .int .i64 h.second, .slice ah_0 h.young.length ch_0, .slice ah_1 h.old.length ch_1]) rfl rfl sh58 rfl rfl) rfl rfl rfl ?_
  refine o_pure (p_move (v := .int .i64 key) rfl) rfl rfl rfl ?_
  refine o_callM rfl (saccess_ok h ah_0 ch_0 ah_1 ch_1 key) hf33 (fun w hw => ⟨(rd_base (i := 1) rfl hh_0) w hw, (rd_base (i := 1) rfl hh_1) w hw⟩) rfl (fun _ _ _ _ ha hA => ⟨SlR.agree ha hA.1, SlR.agree ha hA.2.1, SlR.agree ha hA.2.2⟩) ?_
  rintro ⟨a4, c5, a6, c7, a8, c9⟩ S2
  refine o_know (fun w hw => (hw.at (i := 0) rfl).here.1.2.1) (fun hlr10 => ?_)
  refine o_know (fun w hw => (hw.at (i := 0) rfl).here.2.1.2.1) (fun hlr11 => ?_)
  refine o_know (fun w hw => (hw.at (i := 0) rfl).here.2.2.2.1) (fun hlr12 => ?_)
  refine o_pure (p_move (v := .tuple #[.agg #[.int .i64 (((Seg.access h key).1).first), .int .i64 (((Seg.access h key).1).second), .slice a4 (((Seg.access h key).1).young).length c5, .slice a6 (((Seg.access h key).1).old).length c7], .bool ((Seg.access h key).2.1), .slice a8 ((Seg.access h key).2.2).length c9, .int .i64 (Seg.accessErr h key)]) rfl) rfl rfl rfl ?_
  refine o_pure (p_extract (vs := [.agg #[.int .i64 (((Seg.access h key).1).first), .int .i64 (((Seg.access h key).1).second), .slice a4 (((Seg.access h key).1).young).length c5, .slice a6 (((Seg.access h key).1).old).length c7], .bool ((Seg.access h key).2.1), .slice a8 ((Seg.access h key).2.2).length c9, .int .i64 (Seg.accessErr h key)]) (v := .agg #[.int .i64 (((Seg.access h key).1).first), .int .i64 (((Seg.access h key).1).second), .slice a4 (((Seg.access h key).1).young).length c5, .slice a6 (((Seg.access h key).1).old).length c7]) rfl rfl) rfl rfl rfl ?_
  refine o_pure (p_extract (vs := [.agg #[.int .i64 (((Seg.access h key).1).first), .int .i64 (((Seg.access h key).1).second), .slice a4 (((Seg.access h key).1).young).length c5, .slice a6 (((Seg.access h key).1).old).length c7], .bool ((Seg.access h key).2.1), .slice a8 ((Seg.access h key).2.2).length c9, .int .i64 (Seg.accessErr h key)]) (v := .bool ((Seg.access h key).2.1)) rfl rfl) rfl rfl rfl ?_
  refine o_pure (p_extract (vs := [.agg #[.int .i64 (((Seg.access h key).1).first), .int .i64 (((Seg.access h key).1).second), .slice a4 (((Seg.access h key).1).young).length c5, .slice a6 (((Seg.access h key).1).old).length c7], .bool ((Seg.access h key).2.1), .slice a8 ((Seg.access h key).2.2).length c9, .int .i64 (Seg.accessErr h key)]) (v := .slice a8 ((Seg.access h key).2.2).length c9) rfl rfl) rfl rfl rfl ?_
  refine o_pure (p_extract (vs := [.agg #[.int .i64 (((Seg.access h key).1).first), .int .i64 (((Seg.access h key).1).second), .slice a4 (((Seg.access h key).1).young).length c5, .slice a6 (((Seg.access h key).1).old).length c7], .bool ((Seg.access h key).2.1), .slice a8 ((Seg.access h key).2.2).length c9, .int .i64 (Seg.accessErr h key)]) (v := .int .i64 (Seg.accessErr h key)) rfl rfl) rfl rfl rfl ?_
  refine o_alloc ze58 rfl (fun B13 => ?_)
  refine o_storeN (i := 0) (vs := [.int .i64 (((Seg.access h key).1).first), .int .i64 (((Seg.access h key).1).second), .slice a4 (((Seg.access h key).1).young).length c5, .slice a6 (((Seg.access h key).1).old).length c7]) (cs' := [.int .i64 (((Seg.access h key).1).first), .int .i64 (((Seg.access h key).1).second), .slice a4 (((Seg.access h key).1).young).length c5, .slice a6 (((Seg.access h key).1).old).length c7]) rfl rfl rfl sz58 rfl rfl rfl rfl ?_
  refine o_pure (p_assign (v := .bool ((Seg.access h key).2.1)) rfl) rfl rfl rfl ?_
  refine o_pure (p_assign (v := .slice a8 ((Seg.access h key).2.2).length c9) rfl) rfl rfl rfl ?_
  refine o_pure (p_assign (v := .int .i64 (Seg.accessErr h key)) rfl) rfl rfl rfl ?_
  refine o_nil ?_
  refine q_then ?_
  refine c_seq ?_
  refine c_region ?_
  refine o_pure (p_load_agg (i := 2) (vs := [.int .i64 h.first, .int .i64 h.second, .slice ah_0 h.young.length ch_0, .slice ah_1 h.old.length ch_1]) rfl rfl sh58 rfl rfl) rfl rfl rfl ?_
  refine o_callM rfl (skeys_ok h ah_0 ch_0 ah_1 ch_1) hf35 (fun w hw => ⟨(rd_base (i := 3) rfl hh_0) w hw, (rd_base (i := 3) rfl hh_1) w hw⟩) rfl (fun _ _ _ _ ha hA => SlO.agree ha hA) ?_
  rintro ⟨a16, c17⟩ S14
  refine o_know (fun w hw => own_len (i := 0) (T := tInt) hw rfl) (fun hlr18 => ?_)
  refine o_pure (p_move (v := .tuple #[.slice a16 (Seg.flat h).length c17, .int .i64 (Seg.check h)]) rfl) rfl rfl rfl ?_
  refine o_pure (p_extract (vs := [.slice a16 (Seg.flat h).length c17, .int .i64 (Seg.check h)]) (v := .slice a16 (Seg.flat h).length c17) rfl rfl) rfl rfl rfl ?_
  refine o_pure (p_extract (vs := [.slice a16 (Seg.flat h).length c17, .int .i64 (Seg.check h)]) (v := .int .i64 (Seg.check h)) rfl rfl) rfl rfl rfl ?_
  refine o_pure (p_assign (v := .slice a16 (Seg.flat h).length c17) rfl) rfl rfl rfl ?_
  refine o_pure (p_assign (v := .int .i64 (Seg.check h)) rfl) rfl rfl rfl ?_
  refine o_nil ?_
  refine q_then ?_
  refine c_seq ?_
  refine c_region ?_
  refine o_pure (p_load_agg (i := 1) (vs := [.int .i64 (((Seg.access h key).1).first), .int .i64 (((Seg.access h key).1).second), .slice a4 (((Seg.access h key).1).young).length c5, .slice a6 (((Seg.access h key).1).old).length c7]) rfl rfl sh58 rfl rfl) rfl rfl rfl ?_
  refine o_callM rfl (skeys_ok ((Seg.access h key).1) a4 c5 a6 c7) hf35 (fun w hw => ⟨(rd_ent (i := 2) rfl (fun w h => h.1)) w hw, (rd_ent (i := 2) rfl (fun w h => h.2.1)) w hw⟩) rfl (fun _ _ _ _ ha hA => SlO.agree ha hA) ?_
  rintro ⟨a21, c22⟩ S19
  refine o_know (fun w hw => own_len (i := 0) (T := tInt) hw rfl) (fun hlr23 => ?_)
  refine o_pure (p_move (v := .tuple #[.slice a21 (Seg.flat ((Seg.access h key).1)).length c22, .int .i64 (Seg.check ((Seg.access h key).1))]) rfl) rfl rfl rfl ?_
  refine o_pure (p_extract (vs := [.slice a21 (Seg.flat ((Seg.access h key).1)).length c22, .int .i64 (Seg.check ((Seg.access h key).1))]) (v := .slice a21 (Seg.flat ((Seg.access h key).1)).length c22) rfl rfl) rfl rfl rfl ?_
  refine o_pure (p_extract (vs := [.slice a21 (Seg.flat ((Seg.access h key).1)).length c22, .int .i64 (Seg.check ((Seg.access h key).1))]) (v := .int .i64 (Seg.check ((Seg.access h key).1))) rfl rfl) rfl rfl rfl ?_
  refine o_pure (p_assign (v := .slice a21 (Seg.flat ((Seg.access h key).1)).length c22) rfl) rfl rfl rfl ?_
  refine o_pure (p_assign (v := .int .i64 (Seg.check ((Seg.access h key).1))) rfl) rfl rfl rfl ?_
  refine o_nil ?_
  refine q_then ?_
  refine c_seq ?_
  refine c_seq ?_
  refine c_region ?_
  refine o_call0 (v := .bool true) rfl (hallsBegun_ok ) hf40 (fun _ _ => trivial) rfl ?_
  refine o_pure (p_not (b := true) rfl) rfl rfl rfl ?_
  refine o_nil ?_
  refine q_then ?_
  refine c_false rfl ?_
  refine c_skip ?_
  refine q_then ?_
  refine c_seq ?_
  refine c_seq ?_
  refine c_region ?_
  refine o_pure (p_move (v := .int .i64 (Seg.accessErr h key)) rfl) rfl rfl rfl ?_
  refine o_pure (p_ne (p := (Seg.accessErr h key)) (q := 0) rfl rfl) rfl rfl rfl ?_
  refine o_nil ?_
  refine q_then ?_
  refine c_cond (b := ((Seg.accessErr h key) != 0)) rfl (fun hc24 => ?_) (fun hc24 => ?_)
  · simp only [bne_iff_ne, ne_eq] at hc24
    have hz := Seg.keeps_bad hc24
    refine c_seq ?_
    refine c_region ?_
    refine o_pure (p_move (v := .slice a8 ((Seg.access h key).2.2).length c9) rfl) rfl rfl rfl ?_
    refine o_pure (p_len_slice (len := ((Seg.access h key).2.2).length) rfl rfl Try.underlying30) rfl rfl rfl ?_
    refine o_pure (p_eq (p := (((Seg.access h key).2.2).length : Int)) (q := 0) rfl rfl) rfl rfl rfl ?_
    refine o_pure (p_move (v := .bool ((((Seg.access h key).2.2).length : Int) == 0)) rfl) rfl rfl rfl ?_
    refine o_and (p := 49) 9 ((((((Seg.access h key).1).young).length : Int) + ((((Seg.access h key).1).old).length : Int)) == 0) ?_ ?_ ?_
    · intro hb25 hk
      simp only [beq_iff_eq] at hb25
      refine o_unguard 40 rfl rfl ?_
      refine o_pure (p_fieldAddr (B := B13) (j := 0) (j' := 2) rfl fo58_2 rfl) rfl rfl rfl ?_
      refine o_unguard 40 rfl rfl ?_
      refine o_pure (p_load (i := 2) (v := .slice a4 (((Seg.access h key).1).young).length c5) rfl rfl sh30 rfl) rfl rfl rfl ?_
      refine o_unguard 40 rfl rfl ?_
      refine o_pure (p_len_slice (len := (((Seg.access h key).1).young).length) rfl rfl Try.underlying30) rfl rfl rfl ?_
      refine o_unguard 40 rfl rfl ?_
      refine o_pure (p_fieldAddr (B := B13) (j := 0) (j' := 3) rfl fo58_3 rfl) rfl rfl rfl ?_
      refine o_unguard 40 rfl rfl ?_
      refine o_pure (p_load (i := 2) (v := .slice a6 (((Seg.access h key).1).old).length c7) rfl rfl sh30 rfl) rfl rfl rfl ?_
      refine o_unguard 40 rfl rfl ?_
      refine o_pure (p_len_slice (len := (((Seg.access h key).1).old).length) rfl rfl Try.underlying30) rfl rfl rfl ?_
      refine o_unguard 40 rfl rfl ?_
      refine o_pure (p_addb (p := ((((Seg.access h key).1).young).length : Int)) (q := ((((Seg.access h key).1).old).length : Int)) rfl rfl (by omega)) rfl rfl rfl ?_
      refine o_unguard 40 rfl rfl ?_
      refine o_pure (p_eq (p := (((((Seg.access h key).1).young).length : Int) + ((((Seg.access h key).1).old).length : Int))) (q := 0) rfl rfl) rfl rfl rfl ?_
      refine o_pure (p_pick_true (u := .bool ((((((Seg.access h key).1).young).length : Int) + ((((Seg.access h key).1).old).length : Int)) == 0)) rfl rfl) rfl rfl rfl ?_
      exact o_sub (Sub.cons rfl (Sub.skip rfl (Sub.skip rfl (Sub.skip rfl (Sub.skip rfl (Sub.skip rfl (Sub.skip rfl (Sub.skip rfl (Sub.skip rfl (Sub.skip rfl (Sub.skip rfl (Sub.refl _)))))))))))) hk
    · intro hb25 hk
      refine o_guard_no rfl 40 rfl rfl rfl rfl rfl ?_
      refine o_guard_no rfl 40 rfl rfl rfl rfl rfl ?_
      refine o_guard_no rfl 40 rfl rfl rfl rfl rfl ?_
      refine o_guard_no rfl 40 rfl rfl rfl rfl rfl ?_
      refine o_guard_no rfl 40 rfl rfl rfl rfl rfl ?_
      refine o_guard_no rfl 40 rfl rfl rfl rfl rfl ?_
      refine o_guard_no rfl 40 rfl rfl rfl rfl rfl ?_
      refine o_guard_no rfl 40 rfl rfl rfl rfl rfl ?_
      refine o_pure (p_pick_false (v := .bool false) rfl rfl) rfl rfl rfl ?_
      exact o_sub (Sub.cons rfl (Sub.skip rfl (Sub.skip rfl (Sub.skip rfl (Sub.skip rfl (Sub.skip rfl (Sub.skip rfl (Sub.skip rfl (Sub.skip rfl (Sub.skip rfl (Sub.skip rfl (Sub.refl _)))))))))))) hk
    refine o_pure (p_assign (v := .bool (((((Seg.access h key).2.2).length : Int) == 0) && ((((((Seg.access h key).1).young).length : Int) + ((((Seg.access h key).1).old).length : Int)) == 0))) rfl) rfl rfl rfl ?_
    refine o_nil ?_
    refine q_then ?_
    refine c_ret ?_
    refine q_then_ret ?_
    have hr0 : ((((((Seg.access h key).2.2).length : Int) == 0) && ((((((Seg.access h key).1).young).length : Int) + ((((Seg.access h key).1).old).length : Int)) == 0)) : Bool) = true := by
      first | rfl | (rw [hz]; rfl) | (have h9 : (Seg.access h key).2.1 = true := (by assumption); rw [h9] at m7; simp at m7; simp; omega) | (have h9 : (Seg.access h key).2.1 = false := (by assumption); rw [h9] at m7; simp at m7; simp; omega)
    refine q_end0 (v := .bool (((((Seg.access h key).2.2).length : Int) == 0) && ((((((Seg.access h key).1).young).length : Int) + ((((Seg.access h key).1).old).length : Int)) == 0))) (rt1 rfl (r_tmp rfl)) (i := 5) rfl ?_
    exact (by have hcc := congrArg (fun (y0 : Bool) => (.bool y0 : Value)) hr0; exact hcc)
  · simp only [bne_eq_false_iff_eq] at hc24
    obtain ⟨m1, m2, m3, m4, m5, m6, m7⟩ := Seg.keeps_law hc24
    refine c_skip ?_
    refine q_then ?_
    refine c_seq ?_
    refine c_seq ?_
    refine c_region ?_
    refine o_pure (p_move (v := .int .i64 (Seg.check h)) rfl) rfl rfl rfl ?_
    refine o_pure (p_ne (p := (Seg.check h)) (q := 0) rfl rfl) rfl rfl rfl ?_
    refine o_pure (p_move (v := .bool ((Seg.check h) != 0)) rfl) rfl rfl rfl ?_
    refine o_or (p := 55) 3 ((Seg.check ((Seg.access h key).1)) != 0) ?_ ?_ ?_
    · intro hb26 hk
      simp only [bne_eq_false_iff_eq] at hb26
      refine o_unguard 52 rfl rfl ?_
      refine o_pure (p_move (v := .int .i64 (Seg.check ((Seg.access h key).1))) rfl) rfl rfl rfl ?_
      refine o_unguard 52 rfl rfl ?_
      refine o_pure (p_ne (p := (Seg.check ((Seg.access h key).1))) (q := 0) rfl rfl) rfl rfl rfl ?_
      refine o_pure (p_pick_false (v := .bool ((Seg.check ((Seg.access h key).1)) != 0)) rfl rfl) rfl rfl rfl ?_
      exact o_sub (Sub.cons rfl (Sub.skip rfl (Sub.skip rfl (Sub.skip rfl (Sub.skip rfl (Sub.refl _)))))) hk
    · intro hb26 hk
      refine o_guard_no rfl 52 rfl rfl rfl rfl rfl ?_
      refine o_guard_no rfl 52 rfl rfl rfl rfl rfl ?_
      refine o_pure (p_pick_true (u := .bool true) rfl rfl) rfl rfl rfl ?_
      exact o_sub (Sub.cons rfl (Sub.skip rfl (Sub.skip rfl (Sub.skip rfl (Sub.skip rfl (Sub.refl _)))))) hk
    refine o_pure (p_move (v := .bool (((Seg.check h) != 0) || ((Seg.check ((Seg.access h key).1)) != 0))) rfl) rfl rfl rfl ?_
    refine o_or (p := 60) 4 (decide (1 < (((Seg.access h key).2.2).length : Int))) ?_ ?_ ?_
    · intro hb27 hk
      simp only [Bool.or_eq_false_iff, bne_eq_false_iff_eq] at hb27
      refine o_unguard 56 rfl rfl ?_
      refine o_pure (p_move (v := .slice a8 ((Seg.access h key).2.2).length c9) rfl) rfl rfl rfl ?_
      refine o_unguard 56 rfl rfl ?_
      refine o_pure (p_len_slice (len := ((Seg.access h key).2.2).length) rfl rfl Try.underlying30) rfl rfl rfl ?_
      refine o_unguard 56 rfl rfl ?_
      refine o_pure (p_gt (p := (((Seg.access h key).2.2).length : Int)) (q := 1) rfl rfl) rfl rfl rfl ?_
      refine o_pure (p_pick_false (v := .bool (decide (1 < (((Seg.access h key).2.2).length : Int)))) rfl rfl) rfl rfl rfl ?_
      exact o_sub (Sub.cons rfl (Sub.skip rfl (Sub.skip rfl (Sub.skip rfl (Sub.skip rfl (Sub.skip rfl (Sub.refl _))))))) hk
    · intro hb27 hk
      refine o_guard_no rfl 56 rfl rfl rfl rfl rfl ?_
      refine o_guard_no rfl 56 rfl rfl rfl rfl rfl ?_
      refine o_guard_no rfl 56 rfl rfl rfl rfl rfl ?_
      refine o_pure (p_pick_true (u := .bool true) rfl rfl) rfl rfl rfl ?_
      exact o_sub (Sub.cons rfl (Sub.skip rfl (Sub.skip rfl (Sub.skip rfl (Sub.skip rfl (Sub.skip rfl (Sub.refl _))))))) hk
    refine o_pure (p_move (v := .bool ((((Seg.check h) != 0) || ((Seg.check ((Seg.access h key).1)) != 0)) || decide (1 < (((Seg.access h key).2.2).length : Int)))) rfl) rfl rfl rfl ?_
    refine o_or (p := 67) 6 (((Seg.access h key).2.1) != (Ref.hasInt (Seg.flat h) key)) ?_ ?_ ?_
    · intro hb28 hk
      simp only [Bool.or_eq_false_iff, bne_eq_false_iff_eq, decide_eq_false_iff_not, Int.not_lt] at hb28
      refine o_unguard 61 rfl rfl ?_
      refine o_pure (p_move (v := .bool ((Seg.access h key).2.1)) rfl) rfl rfl rfl ?_
      refine o_unguard 61 rfl rfl ?_
      refine o_pure (p_move (v := .slice a16 (Seg.flat h).length c17) rfl) rfl rfl rfl ?_
      refine o_unguard 61 rfl rfl ?_
      refine o_pure (p_move (v := .int .i64 key) rfl) rfl rfl rfl ?_
      refine o_unguard 61 rfl rfl ?_
      refine o_call0 (v := .bool (Ref.hasInt (Seg.flat h) key)) rfl (hasInt_ok (Seg.flat h) a16 c17 key) hf30 (fun w hw => (rd_own (i := 1) rfl) w hw) rfl ?_
      refine o_unguard 61 rfl rfl ?_
      refine o_pure (p_neBool (b := ((Seg.access h key).2.1)) (c := (Ref.hasInt (Seg.flat h) key)) rfl rfl Try.underlying4) rfl rfl rfl ?_
      refine o_pure (p_pick_false (v := .bool (((Seg.access h key).2.1) != (Ref.hasInt (Seg.flat h) key))) rfl rfl) rfl rfl rfl ?_
      exact o_sub (Sub.cons rfl (Sub.skip rfl (Sub.skip rfl (Sub.skip rfl (Sub.skip rfl (Sub.skip rfl (Sub.skip rfl (Sub.skip rfl (Sub.refl _))))))))) hk
    · intro hb28 hk
      refine o_guard_no rfl 61 rfl rfl rfl rfl rfl ?_
      refine o_guard_no rfl 61 rfl rfl rfl rfl rfl ?_
      refine o_guard_no rfl 61 rfl rfl rfl rfl rfl ?_
      refine o_guard_no rfl 61 rfl rfl rfl rfl rfl ?_
      refine o_guard_no rfl 61 rfl rfl rfl rfl rfl ?_
      refine o_pure (p_pick_true (u := .bool true) rfl rfl) rfl rfl rfl ?_
      exact o_sub (Sub.cons rfl (Sub.skip rfl (Sub.skip rfl (Sub.skip rfl (Sub.skip rfl (Sub.skip rfl (Sub.skip rfl (Sub.skip rfl (Sub.refl _))))))))) hk
    refine o_pure (p_move (v := .bool (((((Seg.check h) != 0) || ((Seg.check ((Seg.access h key).1)) != 0)) || decide (1 < (((Seg.access h key).2.2).length : Int))) || (((Seg.access h key).2.1) != (Ref.hasInt (Seg.flat h) key)))) rfl) rfl rfl rfl ?_
    refine o_or (p := 73) 5 (!(Ref.hasInt (Seg.flat ((Seg.access h key).1)) key)) ?_ ?_ ?_
    · intro hb29 hk
      simp only [Bool.or_eq_false_iff, bne_eq_false_iff_eq, decide_eq_false_iff_not, Int.not_lt] at hb29
      refine o_unguard 68 rfl rfl ?_
      refine o_pure (p_move (v := .slice a21 (Seg.flat ((Seg.access h key).1)).length c22) rfl) rfl rfl rfl ?_
      refine o_unguard 68 rfl rfl ?_
      refine o_pure (p_move (v := .int .i64 key) rfl) rfl rfl rfl ?_
      refine o_unguard 68 rfl rfl ?_
      refine o_call0 (v := .bool (Ref.hasInt (Seg.flat ((Seg.access h key).1)) key)) rfl (hasInt_ok (Seg.flat ((Seg.access h key).1)) a21 c22 key) hf30 (fun w hw => (rd_own (i := 0) rfl) w hw) rfl ?_
      refine o_unguard 68 rfl rfl ?_
      refine o_pure (p_not (b := (Ref.hasInt (Seg.flat ((Seg.access h key).1)) key)) rfl) rfl rfl rfl ?_
      refine o_pure (p_pick_false (v := .bool (!(Ref.hasInt (Seg.flat ((Seg.access h key).1)) key))) rfl rfl) rfl rfl rfl ?_
      exact o_sub (Sub.cons rfl (Sub.skip rfl (Sub.skip rfl (Sub.skip rfl (Sub.skip rfl (Sub.skip rfl (Sub.skip rfl (Sub.refl _)))))))) hk
    · intro hb29 hk
      refine o_guard_no rfl 68 rfl rfl rfl rfl rfl ?_
      refine o_guard_no rfl 68 rfl rfl rfl rfl rfl ?_
      refine o_guard_no rfl 68 rfl rfl rfl rfl rfl ?_
      refine o_guard_no rfl 68 rfl rfl rfl rfl rfl ?_
      refine o_pure (p_pick_true (u := .bool true) rfl rfl) rfl rfl rfl ?_
      exact o_sub (Sub.cons rfl (Sub.skip rfl (Sub.skip rfl (Sub.skip rfl (Sub.skip rfl (Sub.skip rfl (Sub.skip rfl (Sub.refl _)))))))) hk
    refine o_nil ?_
    refine q_then ?_
    refine c_cond (b := ((((((Seg.check h) != 0) || ((Seg.check ((Seg.access h key).1)) != 0)) || decide (1 < (((Seg.access h key).2.2).length : Int))) || (((Seg.access h key).2.1) != (Ref.hasInt (Seg.flat h) key))) || (!(Ref.hasInt (Seg.flat ((Seg.access h key).1)) key)))) rfl (fun hc30 => ?_) (fun hc30 => ?_)
    · simp only [Bool.or_eq_true, bne_iff_ne, ne_eq, decide_eq_true_eq, Bool.not_eq_true'] at hc30
      exfalso; rcases hc30 with (((h9 | h9) | h9) | h9) | h9 <;> first | omega | exact h9 m1 | exact h9 m2 | exact h9 m4 | (rw [m5] at h9; cases h9)
    · simp only [Bool.or_eq_false_iff, bne_eq_false_iff_eq, decide_eq_false_iff_not, Int.not_lt, Bool.not_eq_false'] at hc30
      refine c_skip ?_
      refine q_then ?_
      refine c_seq ?_
      refine c_seq ?_
      refine c_region ?_
      refine o_pure (p_assign (v := .int .i64 0) rfl) rfl rfl rfl ?_
      refine o_nil ?_
      refine q_then ?_
      refine c_block ?_
      refine c_loop (St := Nat)
        (fun i => [(6, .bool ((Seg.access h key).2.1)), (7, .slice a8 ((Seg.access h key).2.2).length c9), (9, .slice a16 (Seg.flat h).length c17), (11, .slice a21 (Seg.flat ((Seg.access h key).1)).length c22), (13, .int .i64 (i : Int))])
        (fun i => [own tInt S19 a21 c22 (Seg.flat ((Seg.access h key).1)), own tInt S14 a16 c17 (Seg.flat h), box B13 [.int .i64 (((Seg.access h key).1).first), .int .i64 (((Seg.access h key).1).second), .slice a4 (((Seg.access h key).1).young).length c5, .slice a6 (((Seg.access h key).1).old).length c7] 58, ⟨S2, fun w => SlR tInt S2 w a4 c5 (((Seg.access h key).1).young) ∧ SlR tInt S2 w a6 c7 (((Seg.access h key).1).old) ∧ SlR tInt S2 w a8 c9 ((Seg.access h key).2.2)⟩, box B1 [.int .i64 h.first, .int .i64 h.second, .slice ah_0 h.young.length ch_0, .slice ah_1 h.old.length ch_1] 58, base w0])
        (fun i => i ≤ (Seg.flat h).length)
        (fun i => (Seg.flat h).length - i)
        0 ?_ (Sub.cons rfl (Sub.cons rfl (Sub.cons rfl (Sub.cons rfl (Sub.cons rfl (Sub.nil _)))))) (fun _ hw => hw) ?_
      · exact Nat.zero_le _
      rintro i hI K hK31
      show SC _ _ Try.prog 104 w0 _ _ [(6, .bool ((Seg.access h key).2.1)), (7, .slice a8 ((Seg.access h key).2.2).length c9), (9, .slice a16 (Seg.flat h).length c17), (11, .slice a21 (Seg.flat ((Seg.access h key).1)).length c22), (13, .int .i64 (i : Int))] [own tInt S19 a21 c22 (Seg.flat ((Seg.access h key).1)), own tInt S14 a16 c17 (Seg.flat h), box B13 [.int .i64 (((Seg.access h key).1).first), .int .i64 (((Seg.access h key).1).second), .slice a4 (((Seg.access h key).1).young).length c5, .slice a6 (((Seg.access h key).1).old).length c7] 58, ⟨S2, fun w => SlR tInt S2 w a4 c5 (((Seg.access h key).1).young) ∧ SlR tInt S2 w a6 c7 (((Seg.access h key).1).old) ∧ SlR tInt S2 w a8 c9 ((Seg.access h key).2.2)⟩, box B1 [.int .i64 h.first, .int .i64 h.second, .slice ah_0 h.young.length ch_0, .slice ah_1 h.old.length ch_1] 58, base w0]
      refine c_seq ?_
      refine c_seq ?_
      refine c_region ?_
      refine o_pure (p_move (v := .int .i64 (i : Int)) rfl) rfl rfl rfl ?_
      refine o_pure (p_move (v := .slice a16 (Seg.flat h).length c17) rfl) rfl rfl rfl ?_
      refine o_pure (p_len_slice (len := (Seg.flat h).length) rfl rfl Try.underlying30) rfl rfl rfl ?_
      refine o_pure (p_lt (p := (i : Int)) (q := ((Seg.flat h).length : Int)) rfl rfl) rfl rfl rfl ?_
      refine o_nil ?_
      refine q_then ?_
      refine c_cond (b := decide ((i : Int) < ((Seg.flat h).length : Int))) rfl (fun hc32 => ?_) (fun hc32 => ?_)
      · simp only [decide_eq_true_eq] at hc32
        refine c_skip ?_
        refine q_then ?_
        refine c_seq ?_
        refine c_block ?_
        refine c_seq ?_
        refine c_draw hmix (by kernel_rfl) ?_
        refine w_pure (p_move (v := .slice a21 (Seg.flat ((Seg.access h key).1)).length c22) rfl) rfl rfl rfl ?_
        refine w_pure (p_move (v := .slice a16 (Seg.flat h).length c17) rfl) rfl rfl rfl ?_
        refine w_pure (p_move (v := .int .i64 (i : Int)) rfl) rfl rfl rfl ?_
        refine w_pure (p_indexAddr (L := (Seg.flat h)) (T := tInt) (i := (i : Int)) rfl rfl (rd_own (i := 1) rfl) Try.underlying30 sz3 (by omega) (by omega)) rfl rfl rfl ?_
        refine w_pure (p_loadE1 (i := i) (T := tInt) (L := (Seg.flat h)) (v := .int .i64 ((Seg.flat h)[i])) rfl (rd_own (i := 1) rfl) (by first | assumption | omega) sh3 rfl) rfl rfl rfl ?_
        refine w_call0 (v := .bool (Ref.hasInt (Seg.flat ((Seg.access h key).1)) ((Seg.flat h)[i]))) rfl (hasInt_ok (Seg.flat ((Seg.access h key).1)) a21 c22 ((Seg.flat h)[i])) hf30 (fun w hw => (rd_own (i := 0) rfl) w hw) rfl ?_
        refine w_pure (p_move (v := .slice a8 ((Seg.access h key).2.2).length c9) rfl) rfl rfl rfl ?_
        refine w_pure (p_move (v := .slice a16 (Seg.flat h).length c17) rfl) rfl rfl rfl ?_
        refine w_pure (p_move (v := .int .i64 (i : Int)) rfl) rfl rfl rfl ?_
        refine w_pure (p_indexAddr (L := (Seg.flat h)) (T := tInt) (i := (i : Int)) rfl rfl (rd_own (i := 1) rfl) Try.underlying30 sz3 (by omega) (by omega)) rfl rfl rfl ?_
        refine w_pure (p_loadE1 (i := i) (T := tInt) (L := (Seg.flat h)) (v := .int .i64 ((Seg.flat h)[i])) rfl (rd_own (i := 1) rfl) (by first | assumption | omega) sh3 rfl) rfl rfl rfl ?_
        refine w_call0 (v := .bool (Ref.hasInt ((Seg.access h key).2.2) ((Seg.flat h)[i]))) rfl (hasInt_ok ((Seg.access h key).2.2) a8 c9 ((Seg.flat h)[i])) hf30 (fun w hw => (rd_ent (i := 3) rfl (fun w h => h.2.2)) w hw) rfl ?_
        refine w_pure (p_eqBool (b := (Ref.hasInt (Seg.flat ((Seg.access h key).1)) ((Seg.flat h)[i]))) (c := (Ref.hasInt ((Seg.access h key).2.2) ((Seg.flat h)[i]))) rfl rfl Try.underlying4) rfl rfl rfl ?_
        refine w_nil ?_
        refine q_then ?_
        refine c_cond (b := ((Ref.hasInt (Seg.flat ((Seg.access h key).1)) ((Seg.flat h)[i])) == (Ref.hasInt ((Seg.access h key).2.2) ((Seg.flat h)[i])))) rfl (fun hc33 => ?_) (fun hc33 => ?_)
        · simp only [beq_iff_eq] at hc33
          exfalso; exact m6 _ (List.getElem_mem (by omega)) hc33
        · simp only [beq_eq_false_iff_ne, ne_eq] at hc33
          refine c_skip ?_
          refine q_block_normal (q_then ?_)
          refine c_region ?_
          refine o_pure (p_move (v := .int .i64 (i : Int)) rfl) rfl rfl rfl ?_
          refine o_pure (p_addb (p := (i : Int)) (q := 1) rfl rfl (by omega)) rfl rfl rfl ?_
          refine o_pure (p_assign (v := .int .i64 ((i : Int) + 1)) rfl) rfl rfl rfl ?_
          refine o_nil ?_
          refine q_round hK31 (i + 1) ?_ ?_ ?_ ?_
          · clear hK31
            omega
          · (try dsimp only); omega
          · exact Sub.cons rfl (Sub.cons rfl (Sub.cons rfl (Sub.cons rfl (Sub.cons rfl (Sub.nil _)))))
          · exact fun _ hw => HeapIs.pick hw [0, 1, 2, 3, 4, 5] (by decide) rfl
      · simp only [decide_eq_false_iff_not, Int.not_lt] at hc32
        refine c_exit ?_
        refine q_then_exit (q_then_exit (q_block_exit (q_then ?_)))
        refine c_seq ?_
        refine c_region ?_
        refine o_pure (p_assign (v := .int .i64 1) rfl) rfl rfl rfl ?_
        refine o_nil ?_
        refine q_then ?_
        refine c_seq ?_
        refine c_seq ?_
        refine c_region ?_
        refine o_pure (p_move (v := .bool ((Seg.access h key).2.1)) rfl) rfl rfl rfl ?_
        refine o_nil ?_
        refine q_then ?_
        refine c_cond (b := ((Seg.access h key).2.1)) rfl (fun hc34 => ?_) (fun hc34 => ?_)
        · skip
          refine c_region ?_
          refine o_pure (p_assign (v := .int .i64 0) rfl) rfl rfl rfl ?_
          refine o_nil ?_
          refine q_then ?_
          refine c_seq ?_
          refine c_region ?_
          refine o_pure (p_move (v := .slice a21 (Seg.flat ((Seg.access h key).1)).length c22) rfl) rfl rfl rfl ?_
          refine o_pure (p_len_slice (len := (Seg.flat ((Seg.access h key).1)).length) rfl rfl Try.underlying30) rfl rfl rfl ?_
          refine o_pure (p_move (v := .slice a16 (Seg.flat h).length c17) rfl) rfl rfl rfl ?_
          refine o_pure (p_len_slice (len := (Seg.flat h).length) rfl rfl Try.underlying30) rfl rfl rfl ?_
          refine o_pure (p_move (v := .int .i64 0) rfl) rfl rfl rfl ?_
          refine o_pure (p_addb (p := ((Seg.flat h).length : Int)) (q := 0) rfl rfl (by omega)) rfl rfl rfl ?_
          refine o_pure (p_move (v := .slice a8 ((Seg.access h key).2.2).length c9) rfl) rfl rfl rfl ?_
          refine o_pure (p_len_slice (len := ((Seg.access h key).2.2).length) rfl rfl Try.underlying30) rfl rfl rfl ?_
          refine o_pure (p_subb (p := (((Seg.flat h).length : Int) + 0)) (q := (((Seg.access h key).2.2).length : Int)) rfl rfl (by omega)) rfl rfl rfl ?_
          refine o_pure (p_eq (p := ((Seg.flat ((Seg.access h key).1)).length : Int)) (q := ((((Seg.flat h).length : Int) + 0) - (((Seg.access h key).2.2).length : Int))) rfl rfl) rfl rfl rfl ?_
          refine o_pure (p_assign (v := .bool (((Seg.flat ((Seg.access h key).1)).length : Int) == ((((Seg.flat h).length : Int) + 0) - (((Seg.access h key).2.2).length : Int)))) rfl) rfl rfl rfl ?_
          refine o_nil ?_
          refine q_then ?_
          refine c_ret ?_
          have hr0 : ((((Seg.flat ((Seg.access h key).1)).length : Int) == ((((Seg.flat h).length : Int) + 0) - (((Seg.access h key).2.2).length : Int))) : Bool) = true := by
            first | rfl | (rw [hz]; rfl) | (have h9 : (Seg.access h key).2.1 = true := (by assumption); rw [h9] at m7; simp at m7; simp; omega) | (have h9 : (Seg.access h key).2.1 = false := (by assumption); rw [h9] at m7; simp at m7; simp; omega)
          refine q_end0 (v := .bool (((Seg.flat ((Seg.access h key).1)).length : Int) == ((((Seg.flat h).length : Int) + 0) - (((Seg.access h key).2.2).length : Int)))) (rt1 rfl (r_tmp rfl)) (i := 5) rfl ?_
          exact (by have hcc := congrArg (fun (y0 : Bool) => (.bool y0 : Value)) hr0; exact hcc)
        · skip
          refine c_skip ?_
          refine q_then ?_
          refine c_seq ?_
          refine c_region ?_
          refine o_pure (p_move (v := .slice a21 (Seg.flat ((Seg.access h key).1)).length c22) rfl) rfl rfl rfl ?_
          refine o_pure (p_len_slice (len := (Seg.flat ((Seg.access h key).1)).length) rfl rfl Try.underlying30) rfl rfl rfl ?_
          refine o_pure (p_move (v := .slice a16 (Seg.flat h).length c17) rfl) rfl rfl rfl ?_
          refine o_pure (p_len_slice (len := (Seg.flat h).length) rfl rfl Try.underlying30) rfl rfl rfl ?_
          refine o_pure (p_move (v := .int .i64 1) rfl) rfl rfl rfl ?_
          refine o_pure (p_addb (p := ((Seg.flat h).length : Int)) (q := 1) rfl rfl (by omega)) rfl rfl rfl ?_
          refine o_pure (p_move (v := .slice a8 ((Seg.access h key).2.2).length c9) rfl) rfl rfl rfl ?_
          refine o_pure (p_len_slice (len := ((Seg.access h key).2.2).length) rfl rfl Try.underlying30) rfl rfl rfl ?_
          refine o_pure (p_subb (p := (((Seg.flat h).length : Int) + 1)) (q := (((Seg.access h key).2.2).length : Int)) rfl rfl (by omega)) rfl rfl rfl ?_
          refine o_pure (p_eq (p := ((Seg.flat ((Seg.access h key).1)).length : Int)) (q := ((((Seg.flat h).length : Int) + 1) - (((Seg.access h key).2.2).length : Int))) rfl rfl) rfl rfl rfl ?_
          refine o_pure (p_assign (v := .bool (((Seg.flat ((Seg.access h key).1)).length : Int) == ((((Seg.flat h).length : Int) + 1) - (((Seg.access h key).2.2).length : Int)))) rfl) rfl rfl rfl ?_
          refine o_nil ?_
          refine q_then ?_
          refine c_ret ?_
          have hr0 : ((((Seg.flat ((Seg.access h key).1)).length : Int) == ((((Seg.flat h).length : Int) + 1) - (((Seg.access h key).2.2).length : Int))) : Bool) = true := by
            first | rfl | (rw [hz]; rfl) | (have h9 : (Seg.access h key).2.1 = true := (by assumption); rw [h9] at m7; simp at m7; simp; omega) | (have h9 : (Seg.access h key).2.1 = false := (by assumption); rw [h9] at m7; simp at m7; simp; omega)
          refine q_end0 (v := .bool (((Seg.flat ((Seg.access h key).1)).length : Int) == ((((Seg.flat h).length : Int) + 1) - (((Seg.access h key).2.2).length : Int)))) (rt1 rfl (r_tmp rfl)) (i := 5) rfl ?_
          exact (by have hcc := congrArg (fun (y0 : Bool) => (.bool y0 : Value)) hr0; exact hcc)
end Go.Proofs.Ytkndekkacimekaa
