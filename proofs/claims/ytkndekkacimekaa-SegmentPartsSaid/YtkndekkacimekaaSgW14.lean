/- The walks, printed by a program from the translation and a specification. -/
import Derived.Test.YtkndekkacimekaaSgF
import Derived.Test.YtkndekkacimekaaSgLaw
import Derived.Test.YtkndekkacimekaaSgW11
namespace Go.Proofs.Ytkndekkacimekaa
open Go.Sx Go.RowKit
set_option maxHeartbeats 8000000 in
set_option maxRecDepth 100000 in
theorem segmentParts_ok (h : DHalls) (ah_0 : Option Addr) (ch_0 : Nat) (ah_1 : Option Addr) (ch_1 : Nat) (l : List Int) (al : Option Addr) (cl : Nat) (m : List Int) (am : Option Addr) (cm : Nat) (key : Int) (hy1 : m.length ≤ 17592186044416) : Fn0 Try.prog 12 [.agg #[.int .i64 h.first, .int .i64 h.second, .slice ah_0 h.young.length ch_0, .slice ah_1 h.old.length ch_1], .slice al l.length cl, .slice am m.length cm, .int .i64 key] (fun w => Rd tInt w ah_0 ch_0 h.young ∧ Rd tInt w ah_1 ch_1 h.old ∧ Rd tInt w al cl l ∧ Rd tInt w am cm m) (.bool true) := by
  refine fn0 (nt := 119) (F0 := [(0, .agg #[.int .i64 h.first, .int .i64 h.second, .slice ah_0 h.young.length ch_0, .slice ah_1 h.old.length ch_1]), (1, .slice al l.length cl), (2, .slice am m.length cm), (3, .int .i64 key)]) Try.func12 rfl Try.ntmps12 rfl rfl (fun w0 hpre => ?_)
  obtain ⟨hh_0, hh_1, hl, hm⟩ := hpre
  have hlhh_0 := hh_0.2.1
  have hlhh_1 := hh_1.2.1
  have hlhl := hl.2.1
  have hlhm := hm.2.1
  refine c_seq ?_
  refine c_region ?_
  refine o_box (v := .agg #[.int .i64 h.first, .int .i64 h.second, .slice ah_0 h.young.length ch_0, .slice ah_1 h.old.length ch_1]) rfl rfl (fun B1 => ?_)
  refine o_pure (p_assign (v := .bool false) rfl) rfl rfl rfl ?_
  refine o_nil ?_
  refine q_then ?_
  refine c_seq ?_
  refine c_region ?_
  refine o_pure (p_load_agg (i := 0) (vs := [.int .i64 h.first, .int .i64 h.second, .slice ah_0 h.young.length ch_0, .slice ah_1 h.old.length ch_1]) rfl rfl sh58 rfl rfl) rfl rfl rfl ?_
  refine o_pure (p_move (v := .slice al l.length cl) rfl) rfl rfl rfl ?_
  refine o_callM rfl (srun_ok h ah_0 ch_0 ah_1 ch_1 l al cl) hf34 (fun w hw => ⟨(rd_base (i := 1) rfl hh_0) w hw, (rd_base (i := 1) rfl hh_1) w hw, (rd_base (i := 1) rfl hl) w hw⟩) rfl (fun _ _ _ _ ha hA => ⟨SlR.agree ha hA.1, SlR.agree ha hA.2⟩) ?_
  rintro ⟨a4, c5, a6, c7⟩ S2
  refine o_know (fun w hw => (hw.at (i := 0) rfl).here.1.2.1) (fun hlr8 => ?_)
  refine o_know (fun w hw => (hw.at (i := 0) rfl).here.2.2.1) (fun hlr9 => ?_)
  refine o_pure (p_move (v := .tuple #[.agg #[.int .i64 (((Seg.run h l).1).first), .int .i64 (((Seg.run h l).1).second), .slice a4 (((Seg.run h l).1).young).length c5, .slice a6 (((Seg.run h l).1).old).length c7], .int .i64 ((Seg.run h l).2), .int .i64 (Seg.runErr h l)]) rfl) rfl rfl rfl ?_
  refine o_pure (p_extract (vs := [.agg #[.int .i64 (((Seg.run h l).1).first), .int .i64 (((Seg.run h l).1).second), .slice a4 (((Seg.run h l).1).young).length c5, .slice a6 (((Seg.run h l).1).old).length c7], .int .i64 ((Seg.run h l).2), .int .i64 (Seg.runErr h l)]) (v := .agg #[.int .i64 (((Seg.run h l).1).first), .int .i64 (((Seg.run h l).1).second), .slice a4 (((Seg.run h l).1).young).length c5, .slice a6 (((Seg.run h l).1).old).length c7]) rfl rfl) rfl rfl rfl ?_
  refine o_pure (p_extract (vs := [.agg #[.int .i64 (((Seg.run h l).1).first), .int .i64 (((Seg.run h l).1).second), .slice a4 (((Seg.run h l).1).young).length c5, .slice a6 (((Seg.run h l).1).old).length c7], .int .i64 ((Seg.run h l).2), .int .i64 (Seg.runErr h l)]) (v := .int .i64 ((Seg.run h l).2)) rfl rfl) rfl rfl rfl ?_
  refine o_pure (p_extract (vs := [.agg #[.int .i64 (((Seg.run h l).1).first), .int .i64 (((Seg.run h l).1).second), .slice a4 (((Seg.run h l).1).young).length c5, .slice a6 (((Seg.run h l).1).old).length c7], .int .i64 ((Seg.run h l).2), .int .i64 (Seg.runErr h l)]) (v := .int .i64 (Seg.runErr h l)) rfl rfl) rfl rfl rfl ?_
  refine o_alloc ze58 rfl (fun B10 => ?_)
  refine o_storeN (i := 0) (vs := [.int .i64 (((Seg.run h l).1).first), .int .i64 (((Seg.run h l).1).second), .slice a4 (((Seg.run h l).1).young).length c5, .slice a6 (((Seg.run h l).1).old).length c7]) (cs' := [.int .i64 (((Seg.run h l).1).first), .int .i64 (((Seg.run h l).1).second), .slice a4 (((Seg.run h l).1).young).length c5, .slice a6 (((Seg.run h l).1).old).length c7]) rfl rfl rfl sz58 rfl rfl rfl rfl ?_
  refine o_pure (p_assign (v := .int .i64 ((Seg.run h l).2)) rfl) rfl rfl rfl ?_
  refine o_pure (p_assign (v := .int .i64 (Seg.runErr h l)) rfl) rfl rfl rfl ?_
  refine o_nil ?_
  refine q_then ?_
  refine c_seq ?_
  refine c_seq ?_
  refine c_region ?_
  refine o_call0 (v := .bool true) rfl (hallsBegun_ok ) hf40 (fun _ _ => trivial) rfl ?_
  refine o_pure (p_not (b := true) rfl) rfl rfl rfl ?_
  refine o_nil ?_
  refine q_then ?_
  refine c_false rfl ?_
  refine c_skip ?_
  refine q_then ?_
  refine c_seq ?_
  refine c_seq ?_
  refine c_region ?_
  refine o_pure (p_move (v := .int .i64 (Seg.runErr h l)) rfl) rfl rfl rfl ?_
  refine o_pure (p_ne (p := (Seg.runErr h l)) (q := 0) rfl rfl) rfl rfl rfl ?_
  refine o_nil ?_
  refine q_then ?_
  refine c_cond (b := ((Seg.runErr h l) != 0)) rfl (fun hc11 => ?_) (fun hc11 => ?_)
  · simp only [bne_iff_ne, ne_eq] at hc11
    have hz := Seg.run_bad0 hc11
    refine c_seq ?_
    refine c_region ?_
    refine o_pure (p_move (v := .int .i64 ((Seg.run h l).2)) rfl) rfl rfl rfl ?_
    refine o_pure (p_eq (p := ((Seg.run h l).2)) (q := 0) rfl rfl) rfl rfl rfl ?_
    refine o_pure (p_move (v := .bool (((Seg.run h l).2) == 0)) rfl) rfl rfl rfl ?_
    refine o_and (p := 43) 9 ((((((Seg.run h l).1).young).length : Int) + ((((Seg.run h l).1).old).length : Int)) == 0) ?_ ?_ ?_
    · intro hb12 hk
      simp only [beq_iff_eq] at hb12
      refine o_unguard 34 rfl rfl ?_
      refine o_pure (p_fieldAddr (B := B10) (j := 0) (j' := 2) rfl fo58_2 rfl) rfl rfl rfl ?_
      refine o_unguard 34 rfl rfl ?_
      refine o_pure (p_load (i := 0) (v := .slice a4 (((Seg.run h l).1).young).length c5) rfl rfl sh30 rfl) rfl rfl rfl ?_
      refine o_unguard 34 rfl rfl ?_
      refine o_pure (p_len_slice (len := (((Seg.run h l).1).young).length) rfl rfl Try.underlying30) rfl rfl rfl ?_
      refine o_unguard 34 rfl rfl ?_
      refine o_pure (p_fieldAddr (B := B10) (j := 0) (j' := 3) rfl fo58_3 rfl) rfl rfl rfl ?_
      refine o_unguard 34 rfl rfl ?_
      refine o_pure (p_load (i := 0) (v := .slice a6 (((Seg.run h l).1).old).length c7) rfl rfl sh30 rfl) rfl rfl rfl ?_
      refine o_unguard 34 rfl rfl ?_
      refine o_pure (p_len_slice (len := (((Seg.run h l).1).old).length) rfl rfl Try.underlying30) rfl rfl rfl ?_
      refine o_unguard 34 rfl rfl ?_
      refine o_pure (p_addb (p := ((((Seg.run h l).1).young).length : Int)) (q := ((((Seg.run h l).1).old).length : Int)) rfl rfl (by omega)) rfl rfl rfl ?_
      refine o_unguard 34 rfl rfl ?_
      refine o_pure (p_eq (p := (((((Seg.run h l).1).young).length : Int) + ((((Seg.run h l).1).old).length : Int))) (q := 0) rfl rfl) rfl rfl rfl ?_
      refine o_pure (p_pick_true (u := .bool ((((((Seg.run h l).1).young).length : Int) + ((((Seg.run h l).1).old).length : Int)) == 0)) rfl rfl) rfl rfl rfl ?_
      exact o_sub (Sub.cons rfl (Sub.skip rfl (Sub.skip rfl (Sub.skip rfl (Sub.skip rfl (Sub.skip rfl (Sub.skip rfl (Sub.skip rfl (Sub.skip rfl (Sub.skip rfl (Sub.skip rfl (Sub.refl _)))))))))))) hk
    · intro hb12 hk
      refine o_guard_no rfl 34 rfl rfl rfl rfl rfl ?_
      refine o_guard_no rfl 34 rfl rfl rfl rfl rfl ?_
      refine o_guard_no rfl 34 rfl rfl rfl rfl rfl ?_
      refine o_guard_no rfl 34 rfl rfl rfl rfl rfl ?_
      refine o_guard_no rfl 34 rfl rfl rfl rfl rfl ?_
      refine o_guard_no rfl 34 rfl rfl rfl rfl rfl ?_
      refine o_guard_no rfl 34 rfl rfl rfl rfl rfl ?_
      refine o_guard_no rfl 34 rfl rfl rfl rfl rfl ?_
      refine o_pure (p_pick_false (v := .bool false) rfl rfl) rfl rfl rfl ?_
      exact o_sub (Sub.cons rfl (Sub.skip rfl (Sub.skip rfl (Sub.skip rfl (Sub.skip rfl (Sub.skip rfl (Sub.skip rfl (Sub.skip rfl (Sub.skip rfl (Sub.skip rfl (Sub.skip rfl (Sub.refl _)))))))))))) hk
    refine o_pure (p_assign (v := .bool ((((Seg.run h l).2) == 0) && ((((((Seg.run h l).1).young).length : Int) + ((((Seg.run h l).1).old).length : Int)) == 0))) rfl) rfl rfl rfl ?_
    refine o_nil ?_
    refine q_then ?_
    refine c_ret ?_
    refine q_then_ret ?_
    have hr0 : (((((Seg.run h l).2) == 0) && ((((((Seg.run h l).1).young).length : Int) + ((((Seg.run h l).1).old).length : Int)) == 0)) : Bool) = true := by
      first | rfl | (rw [hz]; rfl) | exact Seg.parts_bool3 hrun (by assumption) | exact Seg.parts_end p1 p2 htw
    refine q_end0 (v := .bool ((((Seg.run h l).2) == 0) && ((((((Seg.run h l).1).young).length : Int) + ((((Seg.run h l).1).old).length : Int)) == 0))) (rt1 rfl (r_tmp rfl)) (i := 3) rfl ?_
    exact (by have hcc := congrArg (fun (y0 : Bool) => (.bool y0 : Value)) hr0; exact hcc)
  · simp only [bne_eq_false_iff_eq] at hc11
    have hrun := hc11
    have hsm := Seg.run_small hc11
    refine c_skip ?_
    refine q_then ?_
    refine c_seq ?_
    refine c_region ?_
    refine o_pure (p_load_agg (i := 0) (vs := [.int .i64 (((Seg.run h l).1).first), .int .i64 (((Seg.run h l).1).second), .slice a4 (((Seg.run h l).1).young).length c5, .slice a6 (((Seg.run h l).1).old).length c7]) rfl rfl sh58 rfl rfl) rfl rfl rfl ?_
    refine o_pure (p_move (v := .slice am m.length cm) rfl) rfl rfl rfl ?_
    refine o_callM rfl (srun_ok ((Seg.run h l).1) a4 c5 a6 c7 m am cm) hf34 (fun w hw => ⟨(rd_ent (i := 1) rfl (fun w h => h.1)) w hw, (rd_ent (i := 1) rfl (fun w h => h.2)) w hw, (rd_base (i := 3) rfl hm) w hw⟩) rfl (fun _ _ _ _ ha hA => ⟨SlR.agree ha hA.1, SlR.agree ha hA.2⟩) ?_
    rintro ⟨a15, c16, a17, c18⟩ S13
    refine o_know (fun w hw => (hw.at (i := 0) rfl).here.1.2.1) (fun hlr19 => ?_)
    refine o_know (fun w hw => (hw.at (i := 0) rfl).here.2.2.1) (fun hlr20 => ?_)
    refine o_pure (p_move (v := .tuple #[.agg #[.int .i64 (((Seg.run ((Seg.run h l).1) m).1).first), .int .i64 (((Seg.run ((Seg.run h l).1) m).1).second), .slice a15 (((Seg.run ((Seg.run h l).1) m).1).young).length c16, .slice a17 (((Seg.run ((Seg.run h l).1) m).1).old).length c18], .int .i64 ((Seg.run ((Seg.run h l).1) m).2), .int .i64 (Seg.runErr ((Seg.run h l).1) m)]) rfl) rfl rfl rfl ?_
    refine o_pure (p_extract (vs := [.agg #[.int .i64 (((Seg.run ((Seg.run h l).1) m).1).first), .int .i64 (((Seg.run ((Seg.run h l).1) m).1).second), .slice a15 (((Seg.run ((Seg.run h l).1) m).1).young).length c16, .slice a17 (((Seg.run ((Seg.run h l).1) m).1).old).length c18], .int .i64 ((Seg.run ((Seg.run h l).1) m).2), .int .i64 (Seg.runErr ((Seg.run h l).1) m)]) (v := .agg #[.int .i64 (((Seg.run ((Seg.run h l).1) m).1).first), .int .i64 (((Seg.run ((Seg.run h l).1) m).1).second), .slice a15 (((Seg.run ((Seg.run h l).1) m).1).young).length c16, .slice a17 (((Seg.run ((Seg.run h l).1) m).1).old).length c18]) rfl rfl) rfl rfl rfl ?_
    refine o_pure (p_extract (vs := [.agg #[.int .i64 (((Seg.run ((Seg.run h l).1) m).1).first), .int .i64 (((Seg.run ((Seg.run h l).1) m).1).second), .slice a15 (((Seg.run ((Seg.run h l).1) m).1).young).length c16, .slice a17 (((Seg.run ((Seg.run h l).1) m).1).old).length c18], .int .i64 ((Seg.run ((Seg.run h l).1) m).2), .int .i64 (Seg.runErr ((Seg.run h l).1) m)]) (v := .int .i64 ((Seg.run ((Seg.run h l).1) m).2)) rfl rfl) rfl rfl rfl ?_
    refine o_pure (p_extract (vs := [.agg #[.int .i64 (((Seg.run ((Seg.run h l).1) m).1).first), .int .i64 (((Seg.run ((Seg.run h l).1) m).1).second), .slice a15 (((Seg.run ((Seg.run h l).1) m).1).young).length c16, .slice a17 (((Seg.run ((Seg.run h l).1) m).1).old).length c18], .int .i64 ((Seg.run ((Seg.run h l).1) m).2), .int .i64 (Seg.runErr ((Seg.run h l).1) m)]) (v := .int .i64 (Seg.runErr ((Seg.run h l).1) m)) rfl rfl) rfl rfl rfl ?_
    refine o_alloc ze58 rfl (fun B21 => ?_)
    refine o_storeN (i := 0) (vs := [.int .i64 (((Seg.run ((Seg.run h l).1) m).1).first), .int .i64 (((Seg.run ((Seg.run h l).1) m).1).second), .slice a15 (((Seg.run ((Seg.run h l).1) m).1).young).length c16, .slice a17 (((Seg.run ((Seg.run h l).1) m).1).old).length c18]) (cs' := [.int .i64 (((Seg.run ((Seg.run h l).1) m).1).first), .int .i64 (((Seg.run ((Seg.run h l).1) m).1).second), .slice a15 (((Seg.run ((Seg.run h l).1) m).1).young).length c16, .slice a17 (((Seg.run ((Seg.run h l).1) m).1).old).length c18]) rfl rfl rfl sz58 rfl rfl rfl rfl ?_
    refine o_pure (p_assign (v := .int .i64 ((Seg.run ((Seg.run h l).1) m).2)) rfl) rfl rfl rfl ?_
    refine o_pure (p_assign (v := .int .i64 (Seg.runErr ((Seg.run h l).1) m)) rfl) rfl rfl rfl ?_
    refine o_nil ?_
    refine q_then ?_
    refine c_seq ?_
    refine c_cut (G := Option Addr × Nat × (Nat → Prop) × (Nat → Prop) × Option Addr × Nat × Option Addr × Nat × Nat) (fun ⟨a22_5, c22_5, S22_5, S22_6, a22_6, c22_6, a22_6_1, c22_6_1, B22_11⟩ => [(3, .int .i64 key), (10, .int .i64 ((Seg.run h l).2)), (12, .pointer (some ⟨B21, 0, none⟩)), (13, .int .i64 ((Seg.run ((Seg.run h l).1) m).2)), (14, .int .i64 (Seg.runErr ((Seg.run h l).1) m)), (15, .pointer (some ⟨B22_11, 0, none⟩)), (16, .int .i64 ((Seg.run h (l ++ m)).2)), (17, .int .i64 (Seg.runErr h (l ++ m)))]) (fun ⟨a22_5, c22_5, S22_5, S22_6, a22_6, c22_6, a22_6_1, c22_6_1, B22_11⟩ => [box B22_11 [.int .i64 (((Seg.run h (l ++ m)).1).first), .int .i64 (((Seg.run h (l ++ m)).1).second), .slice a22_6 (((Seg.run h (l ++ m)).1).young).length c22_6, .slice a22_6_1 (((Seg.run h (l ++ m)).1).old).length c22_6_1] 58, ⟨S22_6, fun w => SlR tInt S22_6 w a22_6 c22_6 (((Seg.run h (l ++ m)).1).young) ∧ SlR tInt S22_6 w a22_6_1 c22_6_1 (((Seg.run h (l ++ m)).1).old)⟩, own tInt S22_5 a22_5 c22_5 (l ++ m), box B21 [.int .i64 (((Seg.run ((Seg.run h l).1) m).1).first), .int .i64 (((Seg.run ((Seg.run h l).1) m).1).second), .slice a15 (((Seg.run ((Seg.run h l).1) m).1).young).length c16, .slice a17 (((Seg.run ((Seg.run h l).1) m).1).old).length c18] 58, ⟨S13, fun w => SlR tInt S13 w a15 c16 (((Seg.run ((Seg.run h l).1) m).1).young) ∧ SlR tInt S13 w a17 c18 (((Seg.run ((Seg.run h l).1) m).1).old)⟩, box B10 [.int .i64 (((Seg.run h l).1).first), .int .i64 (((Seg.run h l).1).second), .slice a4 (((Seg.run h l).1).young).length c5, .slice a6 (((Seg.run h l).1).old).length c7] 58, ⟨S2, fun w => SlR tInt S2 w a4 c5 (((Seg.run h l).1).young) ∧ SlR tInt S2 w a6 c7 (((Seg.run h l).1).old)⟩, box B1 [.int .i64 h.first, .int .i64 h.second, .slice ah_0 h.young.length ch_0, .slice ah_1 h.old.length ch_1] 58, base w0]) (fun K hK23 => ?_) ?_
    · refine c_held hmix [box B21 [.int .i64 (((Seg.run ((Seg.run h l).1) m).1).first), .int .i64 (((Seg.run ((Seg.run h l).1) m).1).second), .slice a15 (((Seg.run ((Seg.run h l).1) m).1).young).length c16, .slice a17 (((Seg.run ((Seg.run h l).1) m).1).old).length c18] 58, ⟨S13, fun w => SlR tInt S13 w a15 c16 (((Seg.run ((Seg.run h l).1) m).1).young) ∧ SlR tInt S13 w a17 c18 (((Seg.run ((Seg.run h l).1) m).1).old)⟩, box B10 [.int .i64 (((Seg.run h l).1).first), .int .i64 (((Seg.run h l).1).second), .slice a4 (((Seg.run h l).1).young).length c5, .slice a6 (((Seg.run h l).1).old).length c7] 58, ⟨S2, fun w => SlR tInt S2 w a4 c5 (((Seg.run h l).1).young) ∧ SlR tInt S2 w a6 c7 (((Seg.run h l).1).old)⟩, box B1 [.int .i64 h.first, .int .i64 h.second, .slice ah_0 h.young.length ch_0, .slice ah_1 h.old.length ch_1] 58, base w0] rfl rfl ?_
      refine h_take (i := 0) (ls := #[true, false, false, false, false, false, false, false, false, false, false, false, false, false, false]) rfl (by kernel_rfl) (by kernel_rfl) (by kernel_rfl) (fun _ _ _ h => h) (p_load_agg (i := 4) (vs := [.int .i64 h.first, .int .i64 h.second, .slice ah_0 h.young.length ch_0, .slice ah_1 h.old.length ch_1]) rfl rfl sh58 rfl rfl) rfl rfl rfl (fun _ hw => HeapIs.drop hw (List.Sublist.refl _)) rfl ?_
      refine h_take (i := 2) (ls := #[true, false, true, false, false, false, false, false, false, false, false, false, false, false, false]) rfl (by kernel_rfl) (by kernel_rfl) (by kernel_rfl) (fun _ _ _ h => h) (p_move (v := .slice al l.length cl) rfl) rfl rfl rfl (fun _ hw => HeapIs.drop hw (List.Sublist.refl _)) rfl ?_
      refine h_take (i := 4) (ls := #[true, false, true, false, true, false, false, false, false, false, false, false, false, false, false]) rfl (by kernel_rfl) (by kernel_rfl) (by kernel_rfl) (fun _ _ _ h => h) (p_move (v := .slice am m.length cm) rfl) rfl rfl rfl (fun _ hw => HeapIs.drop hw (List.Sublist.refl _)) rfl ?_
      refine h_two (i := 1) (j := 11) (ls := #[true, true, true, false, true, false, false, false, false, false, false, false, false, false, false]) (ls' := #[true, false, true, false, true, false, false, false, false, false, false, true, false, false, false]) (by kernel_rfl) rfl rfl rfl rfl ?_ ?_
      · refine o_buildSlice (m := 0) (T := tInt) (L := []) (vs := []) rfl rfl rfl rfl Try.underlying30 sz3 (by decide) ze3 rfl (by decide) rfl (fun S22_1 a22_1 => ?_)
        refine o_nil ?_
        refine h_next (fun _ hw => HeapIs.drop hw (List.Sublist.cons _ (List.Sublist.cons_cons _ (List.Sublist.cons_cons _ (List.Sublist.cons_cons _ (List.Sublist.cons_cons _ (List.Sublist.cons_cons _ (List.Sublist.cons_cons _ (List.Sublist.slnil))))))))) ?_
        refine h_two (i := 3) (j := 11) (ls := #[true, true, true, true, true, false, false, false, false, false, false, false, false, false, false]) (ls' := #[true, true, true, false, true, false, false, false, false, false, false, true, false, false, false]) (by kernel_rfl) rfl rfl rfl rfl ?_ ?_
        · refine o_append (i := 0) (L := []) (M := l) (T := tInt) rfl rfl rfl (rd_base (i := 6) rfl hl) Try.underlying30 Try.underlying30 (by intro k h; cases h) el3 (by intro z; simp [tInt, one1]) (by decide) (by first | omega | (simp only [List.length_append]; omega) | (simp only [List.length_nil]; omega)) rfl (fun a22_3 c22_3 S22_3 => ?_)
          refine o_nil ?_
          refine h_next (fun _ hw => HeapIs.drop hw (List.Sublist.cons _ (List.Sublist.cons_cons _ (List.Sublist.cons_cons _ (List.Sublist.cons_cons _ (List.Sublist.cons_cons _ (List.Sublist.cons_cons _ (List.Sublist.cons_cons _ (List.Sublist.slnil))))))))) ?_
          refine h_two (i := 5) (j := 11) (ls := #[true, true, true, true, true, true, false, false, false, false, false, false, false, false, false]) (ls' := #[true, true, true, true, true, false, false, false, false, false, false, true, false, false, false]) (by kernel_rfl) rfl rfl rfl rfl ?_ ?_
          · refine o_append (i := 0) (L := l) (M := m) (T := tInt) rfl rfl rfl (rd_base (i := 6) rfl hm) Try.underlying30 Try.underlying30 (by intro k h; cases h) el3 (by intro z; simp [tInt, one1]) (by decide) (by first | omega | (simp only [List.length_append]; omega) | (simp only [List.length_nil]; omega)) rfl (fun a22_5 c22_5 S22_5 => ?_)
            refine o_nil ?_
            refine h_next (fun _ hw => HeapIs.drop hw (List.Sublist.cons _ (List.Sublist.cons_cons _ (List.Sublist.cons_cons _ (List.Sublist.cons_cons _ (List.Sublist.cons_cons _ (List.Sublist.cons_cons _ (List.Sublist.cons_cons _ (List.Sublist.slnil))))))))) ?_
            refine h_two (i := 6) (j := 11) (ls := #[true, true, true, true, true, true, true, false, false, false, false, false, false, false, false]) (ls' := #[true, true, true, true, true, true, false, false, false, false, false, true, false, false, false]) (by kernel_rfl) rfl rfl rfl rfl ?_ ?_
            · refine o_callM rfl (srun_ok h ah_0 ch_0 ah_1 ch_1 (l ++ m) a22_5 c22_5) hf34 (fun w hw => ⟨(rd_base (i := 6) rfl hh_0) w hw, (rd_base (i := 6) rfl hh_1) w hw, (rd_own (i := 0) rfl) w hw⟩) rfl (fun _ _ _ _ ha hA => ⟨SlR.agree ha hA.1, SlR.agree ha hA.2⟩) ?_
              rintro ⟨a22_6, c22_6, a22_6_1, c22_6_1⟩ S22_6
              refine o_know (fun w hw => (hw.at (i := 0) rfl).here.1.2.1) (fun hlr22_6 => ?_)
              refine o_know (fun w hw => (hw.at (i := 0) rfl).here.2.2.1) (fun hlr22_6_1 => ?_)
              refine o_nil ?_
              refine h_next (fun _ hw => HeapIs.drop hw (List.Sublist.cons _ (List.Sublist.cons _ (List.Sublist.cons_cons _ (List.Sublist.cons_cons _ (List.Sublist.cons_cons _ (List.Sublist.cons_cons _ (List.Sublist.cons_cons _ (List.Sublist.cons_cons _ (List.Sublist.slnil)))))))))) ?_
              refine h_take (i := 7) (ls := #[true, true, true, true, true, true, true, true, false, false, false, false, false, false, false]) rfl (by kernel_rfl) (by kernel_rfl) (by kernel_rfl) (fun _ _ _ h => h) (p_move (v := .tuple #[.agg #[.int .i64 (((Seg.run h (l ++ m)).1).first), .int .i64 (((Seg.run h (l ++ m)).1).second), .slice a22_6 (((Seg.run h (l ++ m)).1).young).length c22_6, .slice a22_6_1 (((Seg.run h (l ++ m)).1).old).length c22_6_1], .int .i64 ((Seg.run h (l ++ m)).2), .int .i64 (Seg.runErr h (l ++ m))]) rfl) rfl rfl rfl (fun _ hw => HeapIs.drop hw (List.Sublist.cons _ (List.Sublist.cons _ (List.Sublist.cons_cons _ (List.Sublist.cons_cons _ (List.Sublist.cons_cons _ (List.Sublist.cons_cons _ (List.Sublist.cons_cons _ (List.Sublist.cons_cons _ (List.Sublist.slnil)))))))))) rfl ?_
              refine h_take (i := 8) (ls := #[true, true, true, true, true, true, true, true, true, false, false, false, false, false, false]) rfl (by kernel_rfl) (by kernel_rfl) (by kernel_rfl) (fun _ _ _ h => h) (p_extract (vs := [.agg #[.int .i64 (((Seg.run h (l ++ m)).1).first), .int .i64 (((Seg.run h (l ++ m)).1).second), .slice a22_6 (((Seg.run h (l ++ m)).1).young).length c22_6, .slice a22_6_1 (((Seg.run h (l ++ m)).1).old).length c22_6_1], .int .i64 ((Seg.run h (l ++ m)).2), .int .i64 (Seg.runErr h (l ++ m))]) (v := .agg #[.int .i64 (((Seg.run h (l ++ m)).1).first), .int .i64 (((Seg.run h (l ++ m)).1).second), .slice a22_6 (((Seg.run h (l ++ m)).1).young).length c22_6, .slice a22_6_1 (((Seg.run h (l ++ m)).1).old).length c22_6_1]) rfl rfl) rfl rfl rfl (fun _ hw => HeapIs.drop hw (List.Sublist.cons _ (List.Sublist.cons _ (List.Sublist.cons_cons _ (List.Sublist.cons_cons _ (List.Sublist.cons_cons _ (List.Sublist.cons_cons _ (List.Sublist.cons_cons _ (List.Sublist.cons_cons _ (List.Sublist.slnil)))))))))) rfl ?_
              refine h_take (i := 9) (ls := #[true, true, true, true, true, true, true, true, true, true, false, false, false, false, false]) rfl (by kernel_rfl) (by kernel_rfl) (by kernel_rfl) (fun _ _ _ h => h) (p_extract (vs := [.agg #[.int .i64 (((Seg.run h (l ++ m)).1).first), .int .i64 (((Seg.run h (l ++ m)).1).second), .slice a22_6 (((Seg.run h (l ++ m)).1).young).length c22_6, .slice a22_6_1 (((Seg.run h (l ++ m)).1).old).length c22_6_1], .int .i64 ((Seg.run h (l ++ m)).2), .int .i64 (Seg.runErr h (l ++ m))]) (v := .int .i64 ((Seg.run h (l ++ m)).2)) rfl rfl) rfl rfl rfl (fun _ hw => HeapIs.drop hw (List.Sublist.cons _ (List.Sublist.cons _ (List.Sublist.cons_cons _ (List.Sublist.cons_cons _ (List.Sublist.cons_cons _ (List.Sublist.cons_cons _ (List.Sublist.cons_cons _ (List.Sublist.cons_cons _ (List.Sublist.slnil)))))))))) rfl ?_
              refine h_take (i := 10) (ls := #[true, true, true, true, true, true, true, true, true, true, true, false, false, false, false]) rfl (by kernel_rfl) (by kernel_rfl) (by kernel_rfl) (fun _ _ _ h => h) (p_extract (vs := [.agg #[.int .i64 (((Seg.run h (l ++ m)).1).first), .int .i64 (((Seg.run h (l ++ m)).1).second), .slice a22_6 (((Seg.run h (l ++ m)).1).young).length c22_6, .slice a22_6_1 (((Seg.run h (l ++ m)).1).old).length c22_6_1], .int .i64 ((Seg.run h (l ++ m)).2), .int .i64 (Seg.runErr h (l ++ m))]) (v := .int .i64 (Seg.runErr h (l ++ m))) rfl rfl) rfl rfl rfl (fun _ hw => HeapIs.drop hw (List.Sublist.cons _ (List.Sublist.cons _ (List.Sublist.cons_cons _ (List.Sublist.cons_cons _ (List.Sublist.cons_cons _ (List.Sublist.cons_cons _ (List.Sublist.cons_cons _ (List.Sublist.cons_cons _ (List.Sublist.slnil)))))))))) rfl ?_
              refine h_one (i := 11) (ls := #[true, true, true, true, true, true, true, true, true, true, true, true, false, false, false]) (by kernel_rfl) rfl rfl ?_
              refine o_alloc ze58 rfl (fun B22_11 => ?_)
              refine o_nil ?_
              refine h_next (fun _ hw => HeapIs.drop hw (List.Sublist.cons _ (List.Sublist.cons _ (List.Sublist.cons _ (List.Sublist.cons_cons _ (List.Sublist.cons_cons _ (List.Sublist.cons_cons _ (List.Sublist.cons_cons _ (List.Sublist.cons_cons _ (List.Sublist.cons_cons _ (List.Sublist.slnil))))))))))) ?_
              refine h_one (i := 12) (ls := #[true, true, true, true, true, true, true, true, true, true, true, true, true, false, false]) (by kernel_rfl) rfl rfl ?_
              refine o_storeN (i := 0) (vs := [.int .i64 (((Seg.run h (l ++ m)).1).first), .int .i64 (((Seg.run h (l ++ m)).1).second), .slice a22_6 (((Seg.run h (l ++ m)).1).young).length c22_6, .slice a22_6_1 (((Seg.run h (l ++ m)).1).old).length c22_6_1]) (cs' := [.int .i64 (((Seg.run h (l ++ m)).1).first), .int .i64 (((Seg.run h (l ++ m)).1).second), .slice a22_6 (((Seg.run h (l ++ m)).1).young).length c22_6, .slice a22_6_1 (((Seg.run h (l ++ m)).1).old).length c22_6_1]) rfl rfl rfl sz58 rfl rfl rfl rfl ?_
              refine o_nil ?_
              refine h_next (fun _ hw => HeapIs.drop hw (List.Sublist.cons _ (List.Sublist.cons _ (List.Sublist.cons _ (List.Sublist.cons_cons _ (List.Sublist.cons_cons _ (List.Sublist.cons_cons _ (List.Sublist.cons_cons _ (List.Sublist.cons_cons _ (List.Sublist.cons_cons _ (List.Sublist.slnil))))))))))) ?_
              refine h_take (i := 13) (ls := #[true, true, true, true, true, true, true, true, true, true, true, true, true, true, false]) rfl (by kernel_rfl) (by kernel_rfl) (by kernel_rfl) (fun _ _ _ h => h) (p_assign (v := .int .i64 ((Seg.run h (l ++ m)).2)) rfl) rfl rfl rfl (fun _ hw => HeapIs.drop hw (List.Sublist.cons _ (List.Sublist.cons _ (List.Sublist.cons _ (List.Sublist.cons_cons _ (List.Sublist.cons_cons _ (List.Sublist.cons_cons _ (List.Sublist.cons_cons _ (List.Sublist.cons_cons _ (List.Sublist.cons_cons _ (List.Sublist.slnil))))))))))) rfl ?_
              refine h_take (i := 14) (ls := #[true, true, true, true, true, true, true, true, true, true, true, true, true, true, true]) rfl (by kernel_rfl) (by kernel_rfl) (by kernel_rfl) (fun _ _ _ h => h) (p_assign (v := .int .i64 (Seg.runErr h (l ++ m))) rfl) rfl rfl rfl (fun _ hw => HeapIs.drop hw (List.Sublist.cons _ (List.Sublist.cons _ (List.Sublist.cons _ (List.Sublist.cons_cons _ (List.Sublist.cons_cons _ (List.Sublist.cons_cons _ (List.Sublist.cons_cons _ (List.Sublist.cons_cons _ (List.Sublist.cons_cons _ (List.Sublist.slnil))))))))))) rfl ?_
              refine h_done (by kernel_rfl) ?_
              refine q_kont hK23 (a22_5, c22_5, S22_5, S22_6, a22_6, c22_6, a22_6_1, c22_6_1, B22_11) (Sub.cons rfl (Sub.cons rfl (Sub.cons rfl (Sub.cons rfl (Sub.cons rfl (Sub.cons rfl (Sub.cons rfl (Sub.cons rfl (Sub.nil _))))))))) (fun _ hw => HeapIs.pick hw [0, 1, 2, 3, 4, 5, 6, 7, 8] (by decide) rfl)
            · refine o_alloc ze58 rfl (fun B22_11 => ?_)
              refine o_nil ?_
              refine h_next (fun _ hw => HeapIs.drop hw (List.Sublist.cons _ (List.Sublist.cons _ (List.Sublist.cons_cons _ (List.Sublist.cons_cons _ (List.Sublist.cons_cons _ (List.Sublist.cons_cons _ (List.Sublist.cons_cons _ (List.Sublist.cons_cons _ (List.Sublist.slnil)))))))))) ?_
              refine h_one (i := 6) (ls := #[true, true, true, true, true, true, true, false, false, false, false, true, false, false, false]) (by kernel_rfl) rfl rfl ?_
              refine o_callM rfl (srun_ok h ah_0 ch_0 ah_1 ch_1 (l ++ m) a22_5 c22_5) hf34 (fun w hw => ⟨(rd_base (i := 7) rfl hh_0) w hw, (rd_base (i := 7) rfl hh_1) w hw, (rd_own (i := 1) rfl) w hw⟩) rfl (fun _ _ _ _ ha hA => ⟨SlR.agree ha hA.1, SlR.agree ha hA.2⟩) ?_
              rintro ⟨a22_6, c22_6, a22_6_1, c22_6_1⟩ S22_6
              refine o_know (fun w hw => (hw.at (i := 0) rfl).here.1.2.1) (fun hlr22_6 => ?_)
              refine o_know (fun w hw => (hw.at (i := 0) rfl).here.2.2.1) (fun hlr22_6_1 => ?_)
              refine o_nil ?_
              refine h_next (fun _ hw => HeapIs.drop hw (List.Sublist.cons _ (List.Sublist.cons _ (List.Sublist.cons _ (List.Sublist.cons_cons _ (List.Sublist.cons_cons _ (List.Sublist.cons_cons _ (List.Sublist.cons_cons _ (List.Sublist.cons_cons _ (List.Sublist.cons_cons _ (List.Sublist.slnil))))))))))) ?_
              refine h_take (i := 7) (ls := #[true, true, true, true, true, true, true, true, false, false, false, true, false, false, false]) rfl (by kernel_rfl) (by kernel_rfl) (by kernel_rfl) (fun _ _ _ h => h) (p_move (v := .tuple #[.agg #[.int .i64 (((Seg.run h (l ++ m)).1).first), .int .i64 (((Seg.run h (l ++ m)).1).second), .slice a22_6 (((Seg.run h (l ++ m)).1).young).length c22_6, .slice a22_6_1 (((Seg.run h (l ++ m)).1).old).length c22_6_1], .int .i64 ((Seg.run h (l ++ m)).2), .int .i64 (Seg.runErr h (l ++ m))]) rfl) rfl rfl rfl (fun _ hw => HeapIs.drop hw (List.Sublist.cons _ (List.Sublist.cons _ (List.Sublist.cons _ (List.Sublist.cons_cons _ (List.Sublist.cons_cons _ (List.Sublist.cons_cons _ (List.Sublist.cons_cons _ (List.Sublist.cons_cons _ (List.Sublist.cons_cons _ (List.Sublist.slnil))))))))))) rfl ?_
              refine h_take (i := 8) (ls := #[true, true, true, true, true, true, true, true, true, false, false, true, false, false, false]) rfl (by kernel_rfl) (by kernel_rfl) (by kernel_rfl) (fun _ _ _ h => h) (p_extract (vs := [.agg #[.int .i64 (((Seg.run h (l ++ m)).1).first), .int .i64 (((Seg.run h (l ++ m)).1).second), .slice a22_6 (((Seg.run h (l ++ m)).1).young).length c22_6, .slice a22_6_1 (((Seg.run h (l ++ m)).1).old).length c22_6_1], .int .i64 ((Seg.run h (l ++ m)).2), .int .i64 (Seg.runErr h (l ++ m))]) (v := .agg #[.int .i64 (((Seg.run h (l ++ m)).1).first), .int .i64 (((Seg.run h (l ++ m)).1).second), .slice a22_6 (((Seg.run h (l ++ m)).1).young).length c22_6, .slice a22_6_1 (((Seg.run h (l ++ m)).1).old).length c22_6_1]) rfl rfl) rfl rfl rfl (fun _ hw => HeapIs.drop hw (List.Sublist.cons _ (List.Sublist.cons _ (List.Sublist.cons _ (List.Sublist.cons_cons _ (List.Sublist.cons_cons _ (List.Sublist.cons_cons _ (List.Sublist.cons_cons _ (List.Sublist.cons_cons _ (List.Sublist.cons_cons _ (List.Sublist.slnil))))))))))) rfl ?_
              refine h_take (i := 9) (ls := #[true, true, true, true, true, true, true, true, true, true, false, true, false, false, false]) rfl (by kernel_rfl) (by kernel_rfl) (by kernel_rfl) (fun _ _ _ h => h) (p_extract (vs := [.agg #[.int .i64 (((Seg.run h (l ++ m)).1).first), .int .i64 (((Seg.run h (l ++ m)).1).second), .slice a22_6 (((Seg.run h (l ++ m)).1).young).length c22_6, .slice a22_6_1 (((Seg.run h (l ++ m)).1).old).length c22_6_1], .int .i64 ((Seg.run h (l ++ m)).2), .int .i64 (Seg.runErr h (l ++ m))]) (v := .int .i64 ((Seg.run h (l ++ m)).2)) rfl rfl) rfl rfl rfl (fun _ hw => HeapIs.drop hw (List.Sublist.cons _ (List.Sublist.cons _ (List.Sublist.cons _ (List.Sublist.cons_cons _ (List.Sublist.cons_cons _ (List.Sublist.cons_cons _ (List.Sublist.cons_cons _ (List.Sublist.cons_cons _ (List.Sublist.cons_cons _ (List.Sublist.slnil))))))))))) rfl ?_
              refine h_take (i := 10) (ls := #[true, true, true, true, true, true, true, true, true, true, true, true, false, false, false]) rfl (by kernel_rfl) (by kernel_rfl) (by kernel_rfl) (fun _ _ _ h => h) (p_extract (vs := [.agg #[.int .i64 (((Seg.run h (l ++ m)).1).first), .int .i64 (((Seg.run h (l ++ m)).1).second), .slice a22_6 (((Seg.run h (l ++ m)).1).young).length c22_6, .slice a22_6_1 (((Seg.run h (l ++ m)).1).old).length c22_6_1], .int .i64 ((Seg.run h (l ++ m)).2), .int .i64 (Seg.runErr h (l ++ m))]) (v := .int .i64 (Seg.runErr h (l ++ m))) rfl rfl) rfl rfl rfl (fun _ hw => HeapIs.drop hw (List.Sublist.cons _ (List.Sublist.cons _ (List.Sublist.cons _ (List.Sublist.cons_cons _ (List.Sublist.cons_cons _ (List.Sublist.cons_cons _ (List.Sublist.cons_cons _ (List.Sublist.cons_cons _ (List.Sublist.cons_cons _ (List.Sublist.slnil))))))))))) rfl ?_
              refine h_one (i := 12) (ls := #[true, true, true, true, true, true, true, true, true, true, true, true, true, false, false]) (by kernel_rfl) rfl rfl ?_
              refine o_storeN (i := 1) (vs := [.int .i64 (((Seg.run h (l ++ m)).1).first), .int .i64 (((Seg.run h (l ++ m)).1).second), .slice a22_6 (((Seg.run h (l ++ m)).1).young).length c22_6, .slice a22_6_1 (((Seg.run h (l ++ m)).1).old).length c22_6_1]) (cs' := [.int .i64 (((Seg.run h (l ++ m)).1).first), .int .i64 (((Seg.run h (l ++ m)).1).second), .slice a22_6 (((Seg.run h (l ++ m)).1).young).length c22_6, .slice a22_6_1 (((Seg.run h (l ++ m)).1).old).length c22_6_1]) rfl rfl rfl sz58 rfl rfl rfl rfl ?_
              refine o_nil ?_
              refine h_next (fun _ hw => HeapIs.drop hw (List.Sublist.cons _ (List.Sublist.cons _ (List.Sublist.cons _ (List.Sublist.cons_cons _ (List.Sublist.cons_cons _ (List.Sublist.cons_cons _ (List.Sublist.cons_cons _ (List.Sublist.cons_cons _ (List.Sublist.cons_cons _ (List.Sublist.slnil))))))))))) ?_
              refine h_take (i := 13) (ls := #[true, true, true, true, true, true, true, true, true, true, true, true, true, true, false]) rfl (by kernel_rfl) (by kernel_rfl) (by kernel_rfl) (fun _ _ _ h => h) (p_assign (v := .int .i64 ((Seg.run h (l ++ m)).2)) rfl) rfl rfl rfl (fun _ hw => HeapIs.drop hw (List.Sublist.cons _ (List.Sublist.cons _ (List.Sublist.cons _ (List.Sublist.cons_cons _ (List.Sublist.cons_cons _ (List.Sublist.cons_cons _ (List.Sublist.cons_cons _ (List.Sublist.cons_cons _ (List.Sublist.cons_cons _ (List.Sublist.slnil))))))))))) rfl ?_
              refine h_take (i := 14) (ls := #[true, true, true, true, true, true, true, true, true, true, true, true, true, true, true]) rfl (by kernel_rfl) (by kernel_rfl) (by kernel_rfl) (fun _ _ _ h => h) (p_assign (v := .int .i64 (Seg.runErr h (l ++ m))) rfl) rfl rfl rfl (fun _ hw => HeapIs.drop hw (List.Sublist.cons _ (List.Sublist.cons _ (List.Sublist.cons _ (List.Sublist.cons_cons _ (List.Sublist.cons_cons _ (List.Sublist.cons_cons _ (List.Sublist.cons_cons _ (List.Sublist.cons_cons _ (List.Sublist.cons_cons _ (List.Sublist.slnil))))))))))) rfl ?_
              refine h_done (by kernel_rfl) ?_
              refine q_kont hK23 (a22_5, c22_5, S22_5, S22_6, a22_6, c22_6, a22_6_1, c22_6_1, B22_11) (Sub.cons rfl (Sub.cons rfl (Sub.cons rfl (Sub.cons rfl (Sub.cons rfl (Sub.cons rfl (Sub.cons rfl (Sub.cons rfl (Sub.nil _))))))))) (fun _ hw => HeapIs.pick hw [1, 0, 2, 3, 4, 5, 6, 7, 8] (by decide) rfl)
          · refine o_alloc ze58 rfl (fun B22_11 => ?_)
            refine o_nil ?_
            refine h_next (fun _ hw => HeapIs.drop hw (List.Sublist.cons _ (List.Sublist.cons _ (List.Sublist.cons_cons _ (List.Sublist.cons_cons _ (List.Sublist.cons_cons _ (List.Sublist.cons_cons _ (List.Sublist.cons_cons _ (List.Sublist.cons_cons _ (List.Sublist.slnil)))))))))) ?_
            refine h_one (i := 5) (ls := #[true, true, true, true, true, true, false, false, false, false, false, true, false, false, false]) (by kernel_rfl) rfl rfl ?_
            refine o_append (i := 1) (L := l) (M := m) (T := tInt) rfl rfl rfl (rd_base (i := 7) rfl hm) Try.underlying30 Try.underlying30 (by intro k h; cases h) el3 (by intro z; simp [tInt, one1]) (by decide) (by first | omega | (simp only [List.length_append]; omega) | (simp only [List.length_nil]; omega)) rfl (fun a22_5 c22_5 S22_5 => ?_)
            refine o_nil ?_
            refine h_next (fun _ hw => HeapIs.drop hw (List.Sublist.cons _ (List.Sublist.cons _ (List.Sublist.cons_cons _ (List.Sublist.cons_cons _ (List.Sublist.cons_cons _ (List.Sublist.cons_cons _ (List.Sublist.cons_cons _ (List.Sublist.cons_cons _ (List.Sublist.slnil)))))))))) ?_
            refine h_one (i := 6) (ls := #[true, true, true, true, true, true, true, false, false, false, false, true, false, false, false]) (by kernel_rfl) rfl rfl ?_
            refine o_callM rfl (srun_ok h ah_0 ch_0 ah_1 ch_1 (l ++ m) a22_5 c22_5) hf34 (fun w hw => ⟨(rd_base (i := 7) rfl hh_0) w hw, (rd_base (i := 7) rfl hh_1) w hw, (rd_own (i := 1) rfl) w hw⟩) rfl (fun _ _ _ _ ha hA => ⟨SlR.agree ha hA.1, SlR.agree ha hA.2⟩) ?_
            rintro ⟨a22_6, c22_6, a22_6_1, c22_6_1⟩ S22_6
            refine o_know (fun w hw => (hw.at (i := 0) rfl).here.1.2.1) (fun hlr22_6 => ?_)
            refine o_know (fun w hw => (hw.at (i := 0) rfl).here.2.2.1) (fun hlr22_6_1 => ?_)
            refine o_nil ?_
            refine h_next (fun _ hw => HeapIs.drop hw (List.Sublist.cons _ (List.Sublist.cons _ (List.Sublist.cons _ (List.Sublist.cons_cons _ (List.Sublist.cons_cons _ (List.Sublist.cons_cons _ (List.Sublist.cons_cons _ (List.Sublist.cons_cons _ (List.Sublist.cons_cons _ (List.Sublist.slnil))))))))))) ?_
            refine h_take (i := 7) (ls := #[true, true, true, true, true, true, true, true, false, false, false, true, false, false, false]) rfl (by kernel_rfl) (by kernel_rfl) (by kernel_rfl) (fun _ _ _ h => h) (p_move (v := .tuple #[.agg #[.int .i64 (((Seg.run h (l ++ m)).1).first), .int .i64 (((Seg.run h (l ++ m)).1).second), .slice a22_6 (((Seg.run h (l ++ m)).1).young).length c22_6, .slice a22_6_1 (((Seg.run h (l ++ m)).1).old).length c22_6_1], .int .i64 ((Seg.run h (l ++ m)).2), .int .i64 (Seg.runErr h (l ++ m))]) rfl) rfl rfl rfl (fun _ hw => HeapIs.drop hw (List.Sublist.cons _ (List.Sublist.cons _ (List.Sublist.cons _ (List.Sublist.cons_cons _ (List.Sublist.cons_cons _ (List.Sublist.cons_cons _ (List.Sublist.cons_cons _ (List.Sublist.cons_cons _ (List.Sublist.cons_cons _ (List.Sublist.slnil))))))))))) rfl ?_
            refine h_take (i := 8) (ls := #[true, true, true, true, true, true, true, true, true, false, false, true, false, false, false]) rfl (by kernel_rfl) (by kernel_rfl) (by kernel_rfl) (fun _ _ _ h => h) (p_extract (vs := [.agg #[.int .i64 (((Seg.run h (l ++ m)).1).first), .int .i64 (((Seg.run h (l ++ m)).1).second), .slice a22_6 (((Seg.run h (l ++ m)).1).young).length c22_6, .slice a22_6_1 (((Seg.run h (l ++ m)).1).old).length c22_6_1], .int .i64 ((Seg.run h (l ++ m)).2), .int .i64 (Seg.runErr h (l ++ m))]) (v := .agg #[.int .i64 (((Seg.run h (l ++ m)).1).first), .int .i64 (((Seg.run h (l ++ m)).1).second), .slice a22_6 (((Seg.run h (l ++ m)).1).young).length c22_6, .slice a22_6_1 (((Seg.run h (l ++ m)).1).old).length c22_6_1]) rfl rfl) rfl rfl rfl (fun _ hw => HeapIs.drop hw (List.Sublist.cons _ (List.Sublist.cons _ (List.Sublist.cons _ (List.Sublist.cons_cons _ (List.Sublist.cons_cons _ (List.Sublist.cons_cons _ (List.Sublist.cons_cons _ (List.Sublist.cons_cons _ (List.Sublist.cons_cons _ (List.Sublist.slnil))))))))))) rfl ?_
            refine h_take (i := 9) (ls := #[true, true, true, true, true, true, true, true, true, true, false, true, false, false, false]) rfl (by kernel_rfl) (by kernel_rfl) (by kernel_rfl) (fun _ _ _ h => h) (p_extract (vs := [.agg #[.int .i64 (((Seg.run h (l ++ m)).1).first), .int .i64 (((Seg.run h (l ++ m)).1).second), .slice a22_6 (((Seg.run h (l ++ m)).1).young).length c22_6, .slice a22_6_1 (((Seg.run h (l ++ m)).1).old).length c22_6_1], .int .i64 ((Seg.run h (l ++ m)).2), .int .i64 (Seg.runErr h (l ++ m))]) (v := .int .i64 ((Seg.run h (l ++ m)).2)) rfl rfl) rfl rfl rfl (fun _ hw => HeapIs.drop hw (List.Sublist.cons _ (List.Sublist.cons _ (List.Sublist.cons _ (List.Sublist.cons_cons _ (List.Sublist.cons_cons _ (List.Sublist.cons_cons _ (List.Sublist.cons_cons _ (List.Sublist.cons_cons _ (List.Sublist.cons_cons _ (List.Sublist.slnil))))))))))) rfl ?_
            refine h_take (i := 10) (ls := #[true, true, true, true, true, true, true, true, true, true, true, true, false, false, false]) rfl (by kernel_rfl) (by kernel_rfl) (by kernel_rfl) (fun _ _ _ h => h) (p_extract (vs := [.agg #[.int .i64 (((Seg.run h (l ++ m)).1).first), .int .i64 (((Seg.run h (l ++ m)).1).second), .slice a22_6 (((Seg.run h (l ++ m)).1).young).length c22_6, .slice a22_6_1 (((Seg.run h (l ++ m)).1).old).length c22_6_1], .int .i64 ((Seg.run h (l ++ m)).2), .int .i64 (Seg.runErr h (l ++ m))]) (v := .int .i64 (Seg.runErr h (l ++ m))) rfl rfl) rfl rfl rfl (fun _ hw => HeapIs.drop hw (List.Sublist.cons _ (List.Sublist.cons _ (List.Sublist.cons _ (List.Sublist.cons_cons _ (List.Sublist.cons_cons _ (List.Sublist.cons_cons _ (List.Sublist.cons_cons _ (List.Sublist.cons_cons _ (List.Sublist.cons_cons _ (List.Sublist.slnil))))))))))) rfl ?_
            refine h_one (i := 12) (ls := #[true, true, true, true, true, true, true, true, true, true, true, true, true, false, false]) (by kernel_rfl) rfl rfl ?_
            refine o_storeN (i := 1) (vs := [.int .i64 (((Seg.run h (l ++ m)).1).first), .int .i64 (((Seg.run h (l ++ m)).1).second), .slice a22_6 (((Seg.run h (l ++ m)).1).young).length c22_6, .slice a22_6_1 (((Seg.run h (l ++ m)).1).old).length c22_6_1]) (cs' := [.int .i64 (((Seg.run h (l ++ m)).1).first), .int .i64 (((Seg.run h (l ++ m)).1).second), .slice a22_6 (((Seg.run h (l ++ m)).1).young).length c22_6, .slice a22_6_1 (((Seg.run h (l ++ m)).1).old).length c22_6_1]) rfl rfl rfl sz58 rfl rfl rfl rfl ?_
            refine o_nil ?_
            refine h_next (fun _ hw => HeapIs.drop hw (List.Sublist.cons _ (List.Sublist.cons _ (List.Sublist.cons _ (List.Sublist.cons_cons _ (List.Sublist.cons_cons _ (List.Sublist.cons_cons _ (List.Sublist.cons_cons _ (List.Sublist.cons_cons _ (List.Sublist.cons_cons _ (List.Sublist.slnil))))))))))) ?_
            refine h_take (i := 13) (ls := #[true, true, true, true, true, true, true, true, true, true, true, true, true, true, false]) rfl (by kernel_rfl) (by kernel_rfl) (by kernel_rfl) (fun _ _ _ h => h) (p_assign (v := .int .i64 ((Seg.run h (l ++ m)).2)) rfl) rfl rfl rfl (fun _ hw => HeapIs.drop hw (List.Sublist.cons _ (List.Sublist.cons _ (List.Sublist.cons _ (List.Sublist.cons_cons _ (List.Sublist.cons_cons _ (List.Sublist.cons_cons _ (List.Sublist.cons_cons _ (List.Sublist.cons_cons _ (List.Sublist.cons_cons _ (List.Sublist.slnil))))))))))) rfl ?_
            refine h_take (i := 14) (ls := #[true, true, true, true, true, true, true, true, true, true, true, true, true, true, true]) rfl (by kernel_rfl) (by kernel_rfl) (by kernel_rfl) (fun _ _ _ h => h) (p_assign (v := .int .i64 (Seg.runErr h (l ++ m))) rfl) rfl rfl rfl (fun _ hw => HeapIs.drop hw (List.Sublist.cons _ (List.Sublist.cons _ (List.Sublist.cons _ (List.Sublist.cons_cons _ (List.Sublist.cons_cons _ (List.Sublist.cons_cons _ (List.Sublist.cons_cons _ (List.Sublist.cons_cons _ (List.Sublist.cons_cons _ (List.Sublist.slnil))))))))))) rfl ?_
            refine h_done (by kernel_rfl) ?_
            refine q_kont hK23 (a22_5, c22_5, S22_5, S22_6, a22_6, c22_6, a22_6_1, c22_6_1, B22_11) (Sub.cons rfl (Sub.cons rfl (Sub.cons rfl (Sub.cons rfl (Sub.cons rfl (Sub.cons rfl (Sub.cons rfl (Sub.cons rfl (Sub.nil _))))))))) (fun _ hw => HeapIs.pick hw [1, 0, 2, 3, 4, 5, 6, 7, 8] (by decide) rfl)
        · refine o_alloc ze58 rfl (fun B22_11 => ?_)
          refine o_nil ?_
          refine h_next (fun _ hw => HeapIs.drop hw (List.Sublist.cons _ (List.Sublist.cons _ (List.Sublist.cons_cons _ (List.Sublist.cons_cons _ (List.Sublist.cons_cons _ (List.Sublist.cons_cons _ (List.Sublist.cons_cons _ (List.Sublist.cons_cons _ (List.Sublist.slnil)))))))))) ?_
          refine h_one (i := 3) (ls := #[true, true, true, true, true, false, false, false, false, false, false, true, false, false, false]) (by kernel_rfl) rfl rfl ?_
          refine o_append (i := 1) (L := []) (M := l) (T := tInt) rfl rfl rfl (rd_base (i := 7) rfl hl) Try.underlying30 Try.underlying30 (by intro k h; cases h) el3 (by intro z; simp [tInt, one1]) (by decide) (by first | omega | (simp only [List.length_append]; omega) | (simp only [List.length_nil]; omega)) rfl (fun a22_3 c22_3 S22_3 => ?_)
          refine o_nil ?_
          refine h_next (fun _ hw => HeapIs.drop hw (List.Sublist.cons _ (List.Sublist.cons _ (List.Sublist.cons_cons _ (List.Sublist.cons_cons _ (List.Sublist.cons_cons _ (List.Sublist.cons_cons _ (List.Sublist.cons_cons _ (List.Sublist.cons_cons _ (List.Sublist.slnil)))))))))) ?_
          refine h_one (i := 5) (ls := #[true, true, true, true, true, true, false, false, false, false, false, true, false, false, false]) (by kernel_rfl) rfl rfl ?_
          refine o_append (i := 1) (L := l) (M := m) (T := tInt) rfl rfl rfl (rd_base (i := 7) rfl hm) Try.underlying30 Try.underlying30 (by intro k h; cases h) el3 (by intro z; simp [tInt, one1]) (by decide) (by first | omega | (simp only [List.length_append]; omega) | (simp only [List.length_nil]; omega)) rfl (fun a22_5 c22_5 S22_5 => ?_)
          refine o_nil ?_
          refine h_next (fun _ hw => HeapIs.drop hw (List.Sublist.cons _ (List.Sublist.cons _ (List.Sublist.cons_cons _ (List.Sublist.cons_cons _ (List.Sublist.cons_cons _ (List.Sublist.cons_cons _ (List.Sublist.cons_cons _ (List.Sublist.cons_cons _ (List.Sublist.slnil)))))))))) ?_
          refine h_one (i := 6) (ls := #[true, true, true, true, true, true, true, false, false, false, false, true, false, false, false]) (by kernel_rfl) rfl rfl ?_
          refine o_callM rfl (srun_ok h ah_0 ch_0 ah_1 ch_1 (l ++ m) a22_5 c22_5) hf34 (fun w hw => ⟨(rd_base (i := 7) rfl hh_0) w hw, (rd_base (i := 7) rfl hh_1) w hw, (rd_own (i := 1) rfl) w hw⟩) rfl (fun _ _ _ _ ha hA => ⟨SlR.agree ha hA.1, SlR.agree ha hA.2⟩) ?_
          rintro ⟨a22_6, c22_6, a22_6_1, c22_6_1⟩ S22_6
          refine o_know (fun w hw => (hw.at (i := 0) rfl).here.1.2.1) (fun hlr22_6 => ?_)
          refine o_know (fun w hw => (hw.at (i := 0) rfl).here.2.2.1) (fun hlr22_6_1 => ?_)
          refine o_nil ?_
          refine h_next (fun _ hw => HeapIs.drop hw (List.Sublist.cons _ (List.Sublist.cons _ (List.Sublist.cons _ (List.Sublist.cons_cons _ (List.Sublist.cons_cons _ (List.Sublist.cons_cons _ (List.Sublist.cons_cons _ (List.Sublist.cons_cons _ (List.Sublist.cons_cons _ (List.Sublist.slnil))))))))))) ?_
          refine h_take (i := 7) (ls := #[true, true, true, true, true, true, true, true, false, false, false, true, false, false, false]) rfl (by kernel_rfl) (by kernel_rfl) (by kernel_rfl) (fun _ _ _ h => h) (p_move (v := .tuple #[.agg #[.int .i64 (((Seg.run h (l ++ m)).1).first), .int .i64 (((Seg.run h (l ++ m)).1).second), .slice a22_6 (((Seg.run h (l ++ m)).1).young).length c22_6, .slice a22_6_1 (((Seg.run h (l ++ m)).1).old).length c22_6_1], .int .i64 ((Seg.run h (l ++ m)).2), .int .i64 (Seg.runErr h (l ++ m))]) rfl) rfl rfl rfl (fun _ hw => HeapIs.drop hw (List.Sublist.cons _ (List.Sublist.cons _ (List.Sublist.cons _ (List.Sublist.cons_cons _ (List.Sublist.cons_cons _ (List.Sublist.cons_cons _ (List.Sublist.cons_cons _ (List.Sublist.cons_cons _ (List.Sublist.cons_cons _ (List.Sublist.slnil))))))))))) rfl ?_
          refine h_take (i := 8) (ls := #[true, true, true, true, true, true, true, true, true, false, false, true, false, false, false]) rfl (by kernel_rfl) (by kernel_rfl) (by kernel_rfl) (fun _ _ _ h => h) (p_extract (vs := [.agg #[.int .i64 (((Seg.run h (l ++ m)).1).first), .int .i64 (((Seg.run h (l ++ m)).1).second), .slice a22_6 (((Seg.run h (l ++ m)).1).young).length c22_6, .slice a22_6_1 (((Seg.run h (l ++ m)).1).old).length c22_6_1], .int .i64 ((Seg.run h (l ++ m)).2), .int .i64 (Seg.runErr h (l ++ m))]) (v := .agg #[.int .i64 (((Seg.run h (l ++ m)).1).first), .int .i64 (((Seg.run h (l ++ m)).1).second), .slice a22_6 (((Seg.run h (l ++ m)).1).young).length c22_6, .slice a22_6_1 (((Seg.run h (l ++ m)).1).old).length c22_6_1]) rfl rfl) rfl rfl rfl (fun _ hw => HeapIs.drop hw (List.Sublist.cons _ (List.Sublist.cons _ (List.Sublist.cons _ (List.Sublist.cons_cons _ (List.Sublist.cons_cons _ (List.Sublist.cons_cons _ (List.Sublist.cons_cons _ (List.Sublist.cons_cons _ (List.Sublist.cons_cons _ (List.Sublist.slnil))))))))))) rfl ?_
          refine h_take (i := 9) (ls := #[true, true, true, true, true, true, true, true, true, true, false, true, false, false, false]) rfl (by kernel_rfl) (by kernel_rfl) (by kernel_rfl) (fun _ _ _ h => h) (p_extract (vs := [.agg #[.int .i64 (((Seg.run h (l ++ m)).1).first), .int .i64 (((Seg.run h (l ++ m)).1).second), .slice a22_6 (((Seg.run h (l ++ m)).1).young).length c22_6, .slice a22_6_1 (((Seg.run h (l ++ m)).1).old).length c22_6_1], .int .i64 ((Seg.run h (l ++ m)).2), .int .i64 (Seg.runErr h (l ++ m))]) (v := .int .i64 ((Seg.run h (l ++ m)).2)) rfl rfl) rfl rfl rfl (fun _ hw => HeapIs.drop hw (List.Sublist.cons _ (List.Sublist.cons _ (List.Sublist.cons _ (List.Sublist.cons_cons _ (List.Sublist.cons_cons _ (List.Sublist.cons_cons _ (List.Sublist.cons_cons _ (List.Sublist.cons_cons _ (List.Sublist.cons_cons _ (List.Sublist.slnil))))))))))) rfl ?_
          refine h_take (i := 10) (ls := #[true, true, true, true, true, true, true, true, true, true, true, true, false, false, false]) rfl (by kernel_rfl) (by kernel_rfl) (by kernel_rfl) (fun _ _ _ h => h) (p_extract (vs := [.agg #[.int .i64 (((Seg.run h (l ++ m)).1).first), .int .i64 (((Seg.run h (l ++ m)).1).second), .slice a22_6 (((Seg.run h (l ++ m)).1).young).length c22_6, .slice a22_6_1 (((Seg.run h (l ++ m)).1).old).length c22_6_1], .int .i64 ((Seg.run h (l ++ m)).2), .int .i64 (Seg.runErr h (l ++ m))]) (v := .int .i64 (Seg.runErr h (l ++ m))) rfl rfl) rfl rfl rfl (fun _ hw => HeapIs.drop hw (List.Sublist.cons _ (List.Sublist.cons _ (List.Sublist.cons _ (List.Sublist.cons_cons _ (List.Sublist.cons_cons _ (List.Sublist.cons_cons _ (List.Sublist.cons_cons _ (List.Sublist.cons_cons _ (List.Sublist.cons_cons _ (List.Sublist.slnil))))))))))) rfl ?_
          refine h_one (i := 12) (ls := #[true, true, true, true, true, true, true, true, true, true, true, true, true, false, false]) (by kernel_rfl) rfl rfl ?_
          refine o_storeN (i := 1) (vs := [.int .i64 (((Seg.run h (l ++ m)).1).first), .int .i64 (((Seg.run h (l ++ m)).1).second), .slice a22_6 (((Seg.run h (l ++ m)).1).young).length c22_6, .slice a22_6_1 (((Seg.run h (l ++ m)).1).old).length c22_6_1]) (cs' := [.int .i64 (((Seg.run h (l ++ m)).1).first), .int .i64 (((Seg.run h (l ++ m)).1).second), .slice a22_6 (((Seg.run h (l ++ m)).1).young).length c22_6, .slice a22_6_1 (((Seg.run h (l ++ m)).1).old).length c22_6_1]) rfl rfl rfl sz58 rfl rfl rfl rfl ?_
          refine o_nil ?_
          refine h_next (fun _ hw => HeapIs.drop hw (List.Sublist.cons _ (List.Sublist.cons _ (List.Sublist.cons _ (List.Sublist.cons_cons _ (List.Sublist.cons_cons _ (List.Sublist.cons_cons _ (List.Sublist.cons_cons _ (List.Sublist.cons_cons _ (List.Sublist.cons_cons _ (List.Sublist.slnil))))))))))) ?_
          refine h_take (i := 13) (ls := #[true, true, true, true, true, true, true, true, true, true, true, true, true, true, false]) rfl (by kernel_rfl) (by kernel_rfl) (by kernel_rfl) (fun _ _ _ h => h) (p_assign (v := .int .i64 ((Seg.run h (l ++ m)).2)) rfl) rfl rfl rfl (fun _ hw => HeapIs.drop hw (List.Sublist.cons _ (List.Sublist.cons _ (List.Sublist.cons _ (List.Sublist.cons_cons _ (List.Sublist.cons_cons _ (List.Sublist.cons_cons _ (List.Sublist.cons_cons _ (List.Sublist.cons_cons _ (List.Sublist.cons_cons _ (List.Sublist.slnil))))))))))) rfl ?_
          refine h_take (i := 14) (ls := #[true, true, true, true, true, true, true, true, true, true, true, true, true, true, true]) rfl (by kernel_rfl) (by kernel_rfl) (by kernel_rfl) (fun _ _ _ h => h) (p_assign (v := .int .i64 (Seg.runErr h (l ++ m))) rfl) rfl rfl rfl (fun _ hw => HeapIs.drop hw (List.Sublist.cons _ (List.Sublist.cons _ (List.Sublist.cons _ (List.Sublist.cons_cons _ (List.Sublist.cons_cons _ (List.Sublist.cons_cons _ (List.Sublist.cons_cons _ (List.Sublist.cons_cons _ (List.Sublist.cons_cons _ (List.Sublist.slnil))))))))))) rfl ?_
          refine h_done (by kernel_rfl) ?_
          refine q_kont hK23 (a22_5, c22_5, S22_5, S22_6, a22_6, c22_6, a22_6_1, c22_6_1, B22_11) (Sub.cons rfl (Sub.cons rfl (Sub.cons rfl (Sub.cons rfl (Sub.cons rfl (Sub.cons rfl (Sub.cons rfl (Sub.cons rfl (Sub.nil _))))))))) (fun _ hw => HeapIs.pick hw [1, 0, 2, 3, 4, 5, 6, 7, 8] (by decide) rfl)
      · refine o_alloc ze58 rfl (fun B22_11 => ?_)
        refine o_nil ?_
        refine h_next (fun _ hw => HeapIs.drop hw (List.Sublist.cons _ (List.Sublist.cons_cons _ (List.Sublist.cons_cons _ (List.Sublist.cons_cons _ (List.Sublist.cons_cons _ (List.Sublist.cons_cons _ (List.Sublist.cons_cons _ (List.Sublist.slnil))))))))) ?_
        refine h_one (i := 1) (ls := #[true, true, true, false, true, false, false, false, false, false, false, true, false, false, false]) (by kernel_rfl) rfl rfl ?_
        refine o_buildSlice (m := 0) (T := tInt) (L := []) (vs := []) rfl rfl rfl rfl Try.underlying30 sz3 (by decide) ze3 rfl (by decide) rfl (fun S22_1 a22_1 => ?_)
        refine o_nil ?_
        refine h_next (fun _ hw => HeapIs.drop hw (List.Sublist.cons _ (List.Sublist.cons _ (List.Sublist.cons_cons _ (List.Sublist.cons_cons _ (List.Sublist.cons_cons _ (List.Sublist.cons_cons _ (List.Sublist.cons_cons _ (List.Sublist.cons_cons _ (List.Sublist.slnil)))))))))) ?_
        refine h_one (i := 3) (ls := #[true, true, true, true, true, false, false, false, false, false, false, true, false, false, false]) (by kernel_rfl) rfl rfl ?_
        refine o_append (i := 0) (L := []) (M := l) (T := tInt) rfl rfl rfl (rd_base (i := 7) rfl hl) Try.underlying30 Try.underlying30 (by intro k h; cases h) el3 (by intro z; simp [tInt, one1]) (by decide) (by first | omega | (simp only [List.length_append]; omega) | (simp only [List.length_nil]; omega)) rfl (fun a22_3 c22_3 S22_3 => ?_)
        refine o_nil ?_
        refine h_next (fun _ hw => HeapIs.drop hw (List.Sublist.cons _ (List.Sublist.cons _ (List.Sublist.cons_cons _ (List.Sublist.cons_cons _ (List.Sublist.cons_cons _ (List.Sublist.cons_cons _ (List.Sublist.cons_cons _ (List.Sublist.cons_cons _ (List.Sublist.slnil)))))))))) ?_
        refine h_one (i := 5) (ls := #[true, true, true, true, true, true, false, false, false, false, false, true, false, false, false]) (by kernel_rfl) rfl rfl ?_
        refine o_append (i := 0) (L := l) (M := m) (T := tInt) rfl rfl rfl (rd_base (i := 7) rfl hm) Try.underlying30 Try.underlying30 (by intro k h; cases h) el3 (by intro z; simp [tInt, one1]) (by decide) (by first | omega | (simp only [List.length_append]; omega) | (simp only [List.length_nil]; omega)) rfl (fun a22_5 c22_5 S22_5 => ?_)
        refine o_nil ?_
        refine h_next (fun _ hw => HeapIs.drop hw (List.Sublist.cons _ (List.Sublist.cons _ (List.Sublist.cons_cons _ (List.Sublist.cons_cons _ (List.Sublist.cons_cons _ (List.Sublist.cons_cons _ (List.Sublist.cons_cons _ (List.Sublist.cons_cons _ (List.Sublist.slnil)))))))))) ?_
        refine h_one (i := 6) (ls := #[true, true, true, true, true, true, true, false, false, false, false, true, false, false, false]) (by kernel_rfl) rfl rfl ?_
        refine o_callM rfl (srun_ok h ah_0 ch_0 ah_1 ch_1 (l ++ m) a22_5 c22_5) hf34 (fun w hw => ⟨(rd_base (i := 7) rfl hh_0) w hw, (rd_base (i := 7) rfl hh_1) w hw, (rd_own (i := 0) rfl) w hw⟩) rfl (fun _ _ _ _ ha hA => ⟨SlR.agree ha hA.1, SlR.agree ha hA.2⟩) ?_
        rintro ⟨a22_6, c22_6, a22_6_1, c22_6_1⟩ S22_6
        refine o_know (fun w hw => (hw.at (i := 0) rfl).here.1.2.1) (fun hlr22_6 => ?_)
        refine o_know (fun w hw => (hw.at (i := 0) rfl).here.2.2.1) (fun hlr22_6_1 => ?_)
        refine o_nil ?_
        refine h_next (fun _ hw => HeapIs.drop hw (List.Sublist.cons _ (List.Sublist.cons _ (List.Sublist.cons _ (List.Sublist.cons_cons _ (List.Sublist.cons_cons _ (List.Sublist.cons_cons _ (List.Sublist.cons_cons _ (List.Sublist.cons_cons _ (List.Sublist.cons_cons _ (List.Sublist.slnil))))))))))) ?_
        refine h_take (i := 7) (ls := #[true, true, true, true, true, true, true, true, false, false, false, true, false, false, false]) rfl (by kernel_rfl) (by kernel_rfl) (by kernel_rfl) (fun _ _ _ h => h) (p_move (v := .tuple #[.agg #[.int .i64 (((Seg.run h (l ++ m)).1).first), .int .i64 (((Seg.run h (l ++ m)).1).second), .slice a22_6 (((Seg.run h (l ++ m)).1).young).length c22_6, .slice a22_6_1 (((Seg.run h (l ++ m)).1).old).length c22_6_1], .int .i64 ((Seg.run h (l ++ m)).2), .int .i64 (Seg.runErr h (l ++ m))]) rfl) rfl rfl rfl (fun _ hw => HeapIs.drop hw (List.Sublist.cons _ (List.Sublist.cons _ (List.Sublist.cons _ (List.Sublist.cons_cons _ (List.Sublist.cons_cons _ (List.Sublist.cons_cons _ (List.Sublist.cons_cons _ (List.Sublist.cons_cons _ (List.Sublist.cons_cons _ (List.Sublist.slnil))))))))))) rfl ?_
        refine h_take (i := 8) (ls := #[true, true, true, true, true, true, true, true, true, false, false, true, false, false, false]) rfl (by kernel_rfl) (by kernel_rfl) (by kernel_rfl) (fun _ _ _ h => h) (p_extract (vs := [.agg #[.int .i64 (((Seg.run h (l ++ m)).1).first), .int .i64 (((Seg.run h (l ++ m)).1).second), .slice a22_6 (((Seg.run h (l ++ m)).1).young).length c22_6, .slice a22_6_1 (((Seg.run h (l ++ m)).1).old).length c22_6_1], .int .i64 ((Seg.run h (l ++ m)).2), .int .i64 (Seg.runErr h (l ++ m))]) (v := .agg #[.int .i64 (((Seg.run h (l ++ m)).1).first), .int .i64 (((Seg.run h (l ++ m)).1).second), .slice a22_6 (((Seg.run h (l ++ m)).1).young).length c22_6, .slice a22_6_1 (((Seg.run h (l ++ m)).1).old).length c22_6_1]) rfl rfl) rfl rfl rfl (fun _ hw => HeapIs.drop hw (List.Sublist.cons _ (List.Sublist.cons _ (List.Sublist.cons _ (List.Sublist.cons_cons _ (List.Sublist.cons_cons _ (List.Sublist.cons_cons _ (List.Sublist.cons_cons _ (List.Sublist.cons_cons _ (List.Sublist.cons_cons _ (List.Sublist.slnil))))))))))) rfl ?_
        refine h_take (i := 9) (ls := #[true, true, true, true, true, true, true, true, true, true, false, true, false, false, false]) rfl (by kernel_rfl) (by kernel_rfl) (by kernel_rfl) (fun _ _ _ h => h) (p_extract (vs := [.agg #[.int .i64 (((Seg.run h (l ++ m)).1).first), .int .i64 (((Seg.run h (l ++ m)).1).second), .slice a22_6 (((Seg.run h (l ++ m)).1).young).length c22_6, .slice a22_6_1 (((Seg.run h (l ++ m)).1).old).length c22_6_1], .int .i64 ((Seg.run h (l ++ m)).2), .int .i64 (Seg.runErr h (l ++ m))]) (v := .int .i64 ((Seg.run h (l ++ m)).2)) rfl rfl) rfl rfl rfl (fun _ hw => HeapIs.drop hw (List.Sublist.cons _ (List.Sublist.cons _ (List.Sublist.cons _ (List.Sublist.cons_cons _ (List.Sublist.cons_cons _ (List.Sublist.cons_cons _ (List.Sublist.cons_cons _ (List.Sublist.cons_cons _ (List.Sublist.cons_cons _ (List.Sublist.slnil))))))))))) rfl ?_
        refine h_take (i := 10) (ls := #[true, true, true, true, true, true, true, true, true, true, true, true, false, false, false]) rfl (by kernel_rfl) (by kernel_rfl) (by kernel_rfl) (fun _ _ _ h => h) (p_extract (vs := [.agg #[.int .i64 (((Seg.run h (l ++ m)).1).first), .int .i64 (((Seg.run h (l ++ m)).1).second), .slice a22_6 (((Seg.run h (l ++ m)).1).young).length c22_6, .slice a22_6_1 (((Seg.run h (l ++ m)).1).old).length c22_6_1], .int .i64 ((Seg.run h (l ++ m)).2), .int .i64 (Seg.runErr h (l ++ m))]) (v := .int .i64 (Seg.runErr h (l ++ m))) rfl rfl) rfl rfl rfl (fun _ hw => HeapIs.drop hw (List.Sublist.cons _ (List.Sublist.cons _ (List.Sublist.cons _ (List.Sublist.cons_cons _ (List.Sublist.cons_cons _ (List.Sublist.cons_cons _ (List.Sublist.cons_cons _ (List.Sublist.cons_cons _ (List.Sublist.cons_cons _ (List.Sublist.slnil))))))))))) rfl ?_
        refine h_one (i := 12) (ls := #[true, true, true, true, true, true, true, true, true, true, true, true, true, false, false]) (by kernel_rfl) rfl rfl ?_
        refine o_storeN (i := 2) (vs := [.int .i64 (((Seg.run h (l ++ m)).1).first), .int .i64 (((Seg.run h (l ++ m)).1).second), .slice a22_6 (((Seg.run h (l ++ m)).1).young).length c22_6, .slice a22_6_1 (((Seg.run h (l ++ m)).1).old).length c22_6_1]) (cs' := [.int .i64 (((Seg.run h (l ++ m)).1).first), .int .i64 (((Seg.run h (l ++ m)).1).second), .slice a22_6 (((Seg.run h (l ++ m)).1).young).length c22_6, .slice a22_6_1 (((Seg.run h (l ++ m)).1).old).length c22_6_1]) rfl rfl rfl sz58 rfl rfl rfl rfl ?_
        refine o_nil ?_
        refine h_next (fun _ hw => HeapIs.drop hw (List.Sublist.cons _ (List.Sublist.cons _ (List.Sublist.cons _ (List.Sublist.cons_cons _ (List.Sublist.cons_cons _ (List.Sublist.cons_cons _ (List.Sublist.cons_cons _ (List.Sublist.cons_cons _ (List.Sublist.cons_cons _ (List.Sublist.slnil))))))))))) ?_
        refine h_take (i := 13) (ls := #[true, true, true, true, true, true, true, true, true, true, true, true, true, true, false]) rfl (by kernel_rfl) (by kernel_rfl) (by kernel_rfl) (fun _ _ _ h => h) (p_assign (v := .int .i64 ((Seg.run h (l ++ m)).2)) rfl) rfl rfl rfl (fun _ hw => HeapIs.drop hw (List.Sublist.cons _ (List.Sublist.cons _ (List.Sublist.cons _ (List.Sublist.cons_cons _ (List.Sublist.cons_cons _ (List.Sublist.cons_cons _ (List.Sublist.cons_cons _ (List.Sublist.cons_cons _ (List.Sublist.cons_cons _ (List.Sublist.slnil))))))))))) rfl ?_
        refine h_take (i := 14) (ls := #[true, true, true, true, true, true, true, true, true, true, true, true, true, true, true]) rfl (by kernel_rfl) (by kernel_rfl) (by kernel_rfl) (fun _ _ _ h => h) (p_assign (v := .int .i64 (Seg.runErr h (l ++ m))) rfl) rfl rfl rfl (fun _ hw => HeapIs.drop hw (List.Sublist.cons _ (List.Sublist.cons _ (List.Sublist.cons _ (List.Sublist.cons_cons _ (List.Sublist.cons_cons _ (List.Sublist.cons_cons _ (List.Sublist.cons_cons _ (List.Sublist.cons_cons _ (List.Sublist.cons_cons _ (List.Sublist.slnil))))))))))) rfl ?_
        refine h_done (by kernel_rfl) ?_
        refine q_kont hK23 (a22_5, c22_5, S22_5, S22_6, a22_6, c22_6, a22_6_1, c22_6_1, B22_11) (Sub.cons rfl (Sub.cons rfl (Sub.cons rfl (Sub.cons rfl (Sub.cons rfl (Sub.cons rfl (Sub.cons rfl (Sub.cons rfl (Sub.nil _))))))))) (fun _ hw => HeapIs.pick hw [2, 0, 1, 3, 4, 5, 6, 7, 8] (by decide) rfl)
    rintro ⟨a22_5, c22_5, S22_5, S22_6, a22_6, c22_6, a22_6_1, c22_6_1, B22_11⟩
    show SQ _ 119 w0 _ _ [(3, .int .i64 key), (10, .int .i64 ((Seg.run h l).2)), (12, .pointer (some ⟨B21, 0, none⟩)), (13, .int .i64 ((Seg.run ((Seg.run h l).1) m).2)), (14, .int .i64 (Seg.runErr ((Seg.run h l).1) m)), (15, .pointer (some ⟨B22_11, 0, none⟩)), (16, .int .i64 ((Seg.run h (l ++ m)).2)), (17, .int .i64 (Seg.runErr h (l ++ m)))] [box B22_11 [.int .i64 (((Seg.run h (l ++ m)).1).first), .int .i64 (((Seg.run h (l ++ m)).1).second), .slice a22_6 (((Seg.run h (l ++ m)).1).young).length c22_6, .slice a22_6_1 (((Seg.run h (l ++ m)).1).old).length c22_6_1] 58, ⟨S22_6, fun w => SlR tInt S22_6 w a22_6 c22_6 (((Seg.run h (l ++ m)).1).young) ∧ SlR tInt S22_6 w a22_6_1 c22_6_1 (((Seg.run h (l ++ m)).1).old)⟩, own tInt S22_5 a22_5 c22_5 (l ++ m), box B21 [.int .i64 (((Seg.run ((Seg.run h l).1) m).1).first), .int .i64 (((Seg.run ((Seg.run h l).1) m).1).second), .slice a15 (((Seg.run ((Seg.run h l).1) m).1).young).length c16, .slice a17 (((Seg.run ((Seg.run h l).1) m).1).old).length c18] 58, ⟨S13, fun w => SlR tInt S13 w a15 c16 (((Seg.run ((Seg.run h l).1) m).1).young) ∧ SlR tInt S13 w a17 c18 (((Seg.run ((Seg.run h l).1) m).1).old)⟩, box B10 [.int .i64 (((Seg.run h l).1).first), .int .i64 (((Seg.run h l).1).second), .slice a4 (((Seg.run h l).1).young).length c5, .slice a6 (((Seg.run h l).1).old).length c7] 58, ⟨S2, fun w => SlR tInt S2 w a4 c5 (((Seg.run h l).1).young) ∧ SlR tInt S2 w a6 c7 (((Seg.run h l).1).old)⟩, box B1 [.int .i64 h.first, .int .i64 h.second, .slice ah_0 h.young.length ch_0, .slice ah_1 h.old.length ch_1] 58, base w0]
    refine q_know (fun w hw => (hw.at (i := 1) rfl).here.1.2.1) (fun hlr24 => ?_)
    refine q_know (fun w hw => (hw.at (i := 1) rfl).here.2.2.1) (fun hlr25 => ?_)
    refine q_then ?_
    refine c_seq ?_
    refine c_seq ?_
    refine c_region ?_
    refine o_pure (p_move (v := .int .i64 (Seg.runErr ((Seg.run h l).1) m)) rfl) rfl rfl rfl ?_
    refine o_pure (p_ne (p := (Seg.runErr ((Seg.run h l).1) m)) (q := 0) rfl rfl) rfl rfl rfl ?_
    refine o_pure (p_move (v := .bool ((Seg.runErr ((Seg.run h l).1) m) != 0)) rfl) rfl rfl rfl ?_
    refine o_or (p := 67) 3 ((Seg.runErr h (l ++ m)) != 0) ?_ ?_ ?_
    · intro hb26 hk
      simp only [bne_eq_false_iff_eq] at hb26
      refine o_unguard 64 rfl rfl ?_
      refine o_pure (p_move (v := .int .i64 (Seg.runErr h (l ++ m))) rfl) rfl rfl rfl ?_
      refine o_unguard 64 rfl rfl ?_
      refine o_pure (p_ne (p := (Seg.runErr h (l ++ m))) (q := 0) rfl rfl) rfl rfl rfl ?_
      refine o_pure (p_pick_false (v := .bool ((Seg.runErr h (l ++ m)) != 0)) rfl rfl) rfl rfl rfl ?_
      exact o_sub (Sub.cons rfl (Sub.skip rfl (Sub.skip rfl (Sub.skip rfl (Sub.skip rfl (Sub.refl _)))))) hk
    · intro hb26 hk
      refine o_guard_no rfl 64 rfl rfl rfl rfl rfl ?_
      refine o_guard_no rfl 64 rfl rfl rfl rfl rfl ?_
      refine o_pure (p_pick_true (u := .bool true) rfl rfl) rfl rfl rfl ?_
      exact o_sub (Sub.cons rfl (Sub.skip rfl (Sub.skip rfl (Sub.skip rfl (Sub.skip rfl (Sub.refl _)))))) hk
    refine o_nil ?_
    refine q_then ?_
    refine c_cond (b := (((Seg.runErr ((Seg.run h l).1) m) != 0) || ((Seg.runErr h (l ++ m)) != 0))) rfl (fun hc27 => ?_) (fun hc27 => ?_)
    · simp only [Bool.or_eq_true, bne_iff_ne, ne_eq] at hc27
      refine c_seq ?_
      refine c_region ?_
      refine o_pure (p_move (v := .int .i64 (Seg.runErr ((Seg.run h l).1) m)) rfl) rfl rfl rfl ?_
      refine o_pure (p_move (v := .int .i64 (Seg.runErr h (l ++ m))) rfl) rfl rfl rfl ?_
      refine o_pure (p_eq (p := (Seg.runErr ((Seg.run h l).1) m)) (q := (Seg.runErr h (l ++ m))) rfl rfl) rfl rfl rfl ?_
      refine o_pure (p_move (v := .bool ((Seg.runErr ((Seg.run h l).1) m) == (Seg.runErr h (l ++ m)))) rfl) rfl rfl rfl ?_
      refine o_or (p := 74) 3 ((Seg.runErr h (l ++ m)) == 2) ?_ ?_ ?_
      · intro hb28 hk
        simp only [beq_eq_false_iff_ne, ne_eq] at hb28
        refine o_unguard 71 rfl rfl ?_
        refine o_pure (p_move (v := .int .i64 (Seg.runErr h (l ++ m))) rfl) rfl rfl rfl ?_
        refine o_unguard 71 rfl rfl ?_
        refine o_pure (p_eq (p := (Seg.runErr h (l ++ m))) (q := 2) rfl rfl) rfl rfl rfl ?_
        refine o_pure (p_pick_false (v := .bool ((Seg.runErr h (l ++ m)) == 2)) rfl rfl) rfl rfl rfl ?_
        exact o_sub (Sub.cons rfl (Sub.skip rfl (Sub.skip rfl (Sub.skip rfl (Sub.skip rfl (Sub.refl _)))))) hk
      · intro hb28 hk
        refine o_guard_no rfl 71 rfl rfl rfl rfl rfl ?_
        refine o_guard_no rfl 71 rfl rfl rfl rfl rfl ?_
        refine o_pure (p_pick_true (u := .bool true) rfl rfl) rfl rfl rfl ?_
        exact o_sub (Sub.cons rfl (Sub.skip rfl (Sub.skip rfl (Sub.skip rfl (Sub.skip rfl (Sub.refl _)))))) hk
      refine o_pure (p_assign (v := .bool (((Seg.runErr ((Seg.run h l).1) m) == (Seg.runErr h (l ++ m))) || ((Seg.runErr h (l ++ m)) == 2))) rfl) rfl rfl rfl ?_
      refine o_nil ?_
      refine q_then ?_
      refine c_ret ?_
      refine q_then_ret ?_
      have hr0 : ((((Seg.runErr ((Seg.run h l).1) m) == (Seg.runErr h (l ++ m))) || ((Seg.runErr h (l ++ m)) == 2)) : Bool) = true := by
        first | rfl | (rw [hz]; rfl) | exact Seg.parts_bool3 hrun (by assumption) | exact Seg.parts_end p1 p2 htw
      refine q_end0 (v := .bool (((Seg.runErr ((Seg.run h l).1) m) == (Seg.runErr h (l ++ m))) || ((Seg.runErr h (l ++ m)) == 2))) (rt1 rfl (r_tmp rfl)) (i := 8) rfl ?_
      exact (by have hcc := congrArg (fun (y0 : Bool) => (.bool y0 : Value)) hr0; exact hcc)
    · simp only [Bool.or_eq_false_iff, bne_eq_false_iff_eq] at hc27
      obtain ⟨p1, p2, p3, p4, p5, p6⟩ := Seg.parts_ok (l := l) (m := m) hrun (by simp_all) (by simp_all)
      have htw := @Seg.twice_law (Seg.run (Seg.run h l).1 m).1 key
      refine c_skip ?_
      refine q_then ?_
      refine c_seq ?_
      refine c_region ?_
      refine o_pure (p_load_agg (i := 3) (vs := [.int .i64 (((Seg.run ((Seg.run h l).1) m).1).first), .int .i64 (((Seg.run ((Seg.run h l).1) m).1).second), .slice a15 (((Seg.run ((Seg.run h l).1) m).1).young).length c16, .slice a17 (((Seg.run ((Seg.run h l).1) m).1).old).length c18]) rfl rfl sh58 rfl rfl) rfl rfl rfl ?_
      refine o_pure (p_move (v := .int .i64 key) rfl) rfl rfl rfl ?_
      refine o_pure (p_move (v := .int .i64 key) rfl) rfl rfl rfl ?_
      refine o_buildSlice (m := 2) (T := tInt) (L := [key, key]) (vs := [.int .i64 key, .int .i64 key]) rfl rfl rfl rfl Try.underlying30 sz3 (by decide) ze3 rfl (by decide) rfl (fun S29 a30 => ?_)
      refine o_callM rfl (srun_ok ((Seg.run ((Seg.run h l).1) m).1) a15 c16 a17 c18 ([key, key]) a30 ([key, key].length)) hf34 (fun w hw => ⟨(rd_ent (i := 5) rfl (fun w h => h.1)) w hw, (rd_ent (i := 5) rfl (fun w h => h.2)) w hw, (rd_own (i := 0) rfl) w hw⟩) rfl (fun _ _ _ _ ha hA => ⟨SlR.agree ha hA.1, SlR.agree ha hA.2⟩) ?_
      rintro ⟨a34, c35, a36, c37⟩ S32
      refine o_know (fun w hw => (hw.at (i := 0) rfl).here.1.2.1) (fun hlr38 => ?_)
      refine o_know (fun w hw => (hw.at (i := 0) rfl).here.2.2.1) (fun hlr39 => ?_)
      refine o_pure (p_move (v := .tuple #[.agg #[.int .i64 (((Seg.run ((Seg.run ((Seg.run h l).1) m).1) ([key, key])).1).first), .int .i64 (((Seg.run ((Seg.run ((Seg.run h l).1) m).1) ([key, key])).1).second), .slice a34 (((Seg.run ((Seg.run ((Seg.run h l).1) m).1) ([key, key])).1).young).length c35, .slice a36 (((Seg.run ((Seg.run ((Seg.run h l).1) m).1) ([key, key])).1).old).length c37], .int .i64 ((Seg.run ((Seg.run ((Seg.run h l).1) m).1) ([key, key])).2), .int .i64 (Seg.runErr ((Seg.run ((Seg.run h l).1) m).1) ([key, key]))]) rfl) rfl rfl rfl ?_
      refine o_pure (p_extract (vs := [.agg #[.int .i64 (((Seg.run ((Seg.run ((Seg.run h l).1) m).1) ([key, key])).1).first), .int .i64 (((Seg.run ((Seg.run ((Seg.run h l).1) m).1) ([key, key])).1).second), .slice a34 (((Seg.run ((Seg.run ((Seg.run h l).1) m).1) ([key, key])).1).young).length c35, .slice a36 (((Seg.run ((Seg.run ((Seg.run h l).1) m).1) ([key, key])).1).old).length c37], .int .i64 ((Seg.run ((Seg.run ((Seg.run h l).1) m).1) ([key, key])).2), .int .i64 (Seg.runErr ((Seg.run ((Seg.run h l).1) m).1) ([key, key]))]) (v := .agg #[.int .i64 (((Seg.run ((Seg.run ((Seg.run h l).1) m).1) ([key, key])).1).first), .int .i64 (((Seg.run ((Seg.run ((Seg.run h l).1) m).1) ([key, key])).1).second), .slice a34 (((Seg.run ((Seg.run ((Seg.run h l).1) m).1) ([key, key])).1).young).length c35, .slice a36 (((Seg.run ((Seg.run ((Seg.run h l).1) m).1) ([key, key])).1).old).length c37]) rfl rfl) rfl rfl rfl ?_
      refine o_pure (p_extract (vs := [.agg #[.int .i64 (((Seg.run ((Seg.run ((Seg.run h l).1) m).1) ([key, key])).1).first), .int .i64 (((Seg.run ((Seg.run ((Seg.run h l).1) m).1) ([key, key])).1).second), .slice a34 (((Seg.run ((Seg.run ((Seg.run h l).1) m).1) ([key, key])).1).young).length c35, .slice a36 (((Seg.run ((Seg.run ((Seg.run h l).1) m).1) ([key, key])).1).old).length c37], .int .i64 ((Seg.run ((Seg.run ((Seg.run h l).1) m).1) ([key, key])).2), .int .i64 (Seg.runErr ((Seg.run ((Seg.run h l).1) m).1) ([key, key]))]) (v := .int .i64 ((Seg.run ((Seg.run ((Seg.run h l).1) m).1) ([key, key])).2)) rfl rfl) rfl rfl rfl ?_
      refine o_pure (p_extract (vs := [.agg #[.int .i64 (((Seg.run ((Seg.run ((Seg.run h l).1) m).1) ([key, key])).1).first), .int .i64 (((Seg.run ((Seg.run ((Seg.run h l).1) m).1) ([key, key])).1).second), .slice a34 (((Seg.run ((Seg.run ((Seg.run h l).1) m).1) ([key, key])).1).young).length c35, .slice a36 (((Seg.run ((Seg.run ((Seg.run h l).1) m).1) ([key, key])).1).old).length c37], .int .i64 ((Seg.run ((Seg.run ((Seg.run h l).1) m).1) ([key, key])).2), .int .i64 (Seg.runErr ((Seg.run ((Seg.run h l).1) m).1) ([key, key]))]) (v := .int .i64 (Seg.runErr ((Seg.run ((Seg.run h l).1) m).1) ([key, key]))) rfl rfl) rfl rfl rfl ?_
      refine o_alloc ze58 rfl (fun B40 => ?_)
      refine o_storeN (i := 0) (vs := [.int .i64 (((Seg.run ((Seg.run ((Seg.run h l).1) m).1) ([key, key])).1).first), .int .i64 (((Seg.run ((Seg.run ((Seg.run h l).1) m).1) ([key, key])).1).second), .slice a34 (((Seg.run ((Seg.run ((Seg.run h l).1) m).1) ([key, key])).1).young).length c35, .slice a36 (((Seg.run ((Seg.run ((Seg.run h l).1) m).1) ([key, key])).1).old).length c37]) (cs' := [.int .i64 (((Seg.run ((Seg.run ((Seg.run h l).1) m).1) ([key, key])).1).first), .int .i64 (((Seg.run ((Seg.run ((Seg.run h l).1) m).1) ([key, key])).1).second), .slice a34 (((Seg.run ((Seg.run ((Seg.run h l).1) m).1) ([key, key])).1).young).length c35, .slice a36 (((Seg.run ((Seg.run ((Seg.run h l).1) m).1) ([key, key])).1).old).length c37]) rfl rfl rfl sz58 rfl rfl rfl rfl ?_
      refine o_pure (p_assign (v := .int .i64 ((Seg.run ((Seg.run ((Seg.run h l).1) m).1) ([key, key])).2)) rfl) rfl rfl rfl ?_
      refine o_pure (p_assign (v := .int .i64 (Seg.runErr ((Seg.run ((Seg.run h l).1) m).1) ([key, key]))) rfl) rfl rfl rfl ?_
      refine o_nil ?_
      refine q_then ?_
      refine c_seq ?_
      refine c_region ?_
      refine o_pure (p_load_agg (i := 6) (vs := [.int .i64 (((Seg.run ((Seg.run h l).1) m).1).first), .int .i64 (((Seg.run ((Seg.run h l).1) m).1).second), .slice a15 (((Seg.run ((Seg.run h l).1) m).1).young).length c16, .slice a17 (((Seg.run ((Seg.run h l).1) m).1).old).length c18]) rfl rfl sh58 rfl rfl) rfl rfl rfl ?_
      refine o_pure (p_load_agg (i := 3) (vs := [.int .i64 (((Seg.run h (l ++ m)).1).first), .int .i64 (((Seg.run h (l ++ m)).1).second), .slice a22_6 (((Seg.run h (l ++ m)).1).young).length c22_6, .slice a22_6_1 (((Seg.run h (l ++ m)).1).old).length c22_6_1]) rfl rfl sh58 rfl rfl) rfl rfl rfl ?_
      refine o_call0 (v := .bool (decide (((Seg.run ((Seg.run h l).1) m).1) = ((Seg.run h (l ++ m)).1)))) rfl (sameHalls_ok ((Seg.run ((Seg.run h l).1) m).1) a15 c16 a17 c18 ((Seg.run h (l ++ m)).1) a22_6 c22_6 a22_6_1 c22_6_1) hf42 (fun w hw => ⟨(rd_ent (i := 7) rfl (fun w h => h.1)) w hw, (rd_ent (i := 7) rfl (fun w h => h.2)) w hw, (rd_ent (i := 4) rfl (fun w h => h.1)) w hw, (rd_ent (i := 4) rfl (fun w h => h.2)) w hw⟩) rfl ?_
      refine o_pure (p_move (v := .bool (decide (((Seg.run ((Seg.run h l).1) m).1) = ((Seg.run h (l ++ m)).1)))) rfl) rfl rfl rfl ?_
      refine o_and (p := 93) 6 (((Seg.run h (l ++ m)).2) == (((Seg.run h l).2) + ((Seg.run ((Seg.run h l).1) m).2))) ?_ ?_ ?_
      · intro hb41 hk
        simp only [decide_eq_true_eq] at hb41
        refine o_unguard 87 rfl rfl ?_
        refine o_pure (p_move (v := .int .i64 ((Seg.run h (l ++ m)).2)) rfl) rfl rfl rfl ?_
        refine o_unguard 87 rfl rfl ?_
        refine o_pure (p_move (v := .int .i64 ((Seg.run h l).2)) rfl) rfl rfl rfl ?_
        refine o_unguard 87 rfl rfl ?_
        refine o_pure (p_move (v := .int .i64 ((Seg.run ((Seg.run h l).1) m).2)) rfl) rfl rfl rfl ?_
        refine o_unguard 87 rfl rfl ?_
        refine o_pure (p_addb (p := ((Seg.run h l).2)) (q := ((Seg.run ((Seg.run h l).1) m).2)) rfl rfl (by omega)) rfl rfl rfl ?_
        refine o_unguard 87 rfl rfl ?_
        refine o_pure (p_eq (p := ((Seg.run h (l ++ m)).2)) (q := (((Seg.run h l).2) + ((Seg.run ((Seg.run h l).1) m).2))) rfl rfl) rfl rfl rfl ?_
        refine o_pure (p_pick_true (u := .bool (((Seg.run h (l ++ m)).2) == (((Seg.run h l).2) + ((Seg.run ((Seg.run h l).1) m).2)))) rfl rfl) rfl rfl rfl ?_
        exact o_sub (Sub.cons rfl (Sub.skip rfl (Sub.skip rfl (Sub.skip rfl (Sub.skip rfl (Sub.skip rfl (Sub.skip rfl (Sub.skip rfl (Sub.refl _))))))))) hk
      · intro hb41 hk
        refine o_guard_no rfl 87 rfl rfl rfl rfl rfl ?_
        refine o_guard_no rfl 87 rfl rfl rfl rfl rfl ?_
        refine o_guard_no rfl 87 rfl rfl rfl rfl rfl ?_
        refine o_guard_no rfl 87 rfl rfl rfl rfl rfl ?_
        refine o_guard_no rfl 87 rfl rfl rfl rfl rfl ?_
        refine o_pure (p_pick_false (v := .bool false) rfl rfl) rfl rfl rfl ?_
        exact o_sub (Sub.cons rfl (Sub.skip rfl (Sub.skip rfl (Sub.skip rfl (Sub.skip rfl (Sub.skip rfl (Sub.skip rfl (Sub.skip rfl (Sub.refl _))))))))) hk
      refine o_pure (p_move (v := .bool ((decide (((Seg.run ((Seg.run h l).1) m).1) = ((Seg.run h (l ++ m)).1))) && (((Seg.run h (l ++ m)).2) == (((Seg.run h l).2) + ((Seg.run ((Seg.run h l).1) m).2))))) rfl) rfl rfl rfl ?_
      refine o_and (p := 118) 24 (((Seg.runErr ((Seg.run ((Seg.run h l).1) m).1) ([key, key])) != 0) || ((decide (0 < ((((Seg.run ((Seg.run ((Seg.run h l).1) m).1) ([key, key])).1).old).length : Int)) && (((((Seg.run ((Seg.run ((Seg.run h l).1) m).1) ([key, key])).1).old).getD 0 default) == key)) && (!(Ref.hasInt (((Seg.run ((Seg.run ((Seg.run h l).1) m).1) ([key, key])).1).young) key)))) ?_ ?_ ?_
      · intro hb42 hk
        simp only [Bool.and_eq_true, decide_eq_true_eq, beq_iff_eq] at hb42
        refine o_unguard 94 rfl rfl ?_
        refine o_pure (p_move (v := .int .i64 (Seg.runErr ((Seg.run ((Seg.run h l).1) m).1) ([key, key]))) rfl) rfl rfl rfl ?_
        refine o_unguard 94 rfl rfl ?_
        refine o_pure (p_ne (p := (Seg.runErr ((Seg.run ((Seg.run h l).1) m).1) ([key, key]))) (q := 0) rfl rfl) rfl rfl rfl ?_
        refine o_unguard 94 rfl rfl ?_
        refine o_pure (p_move (v := .bool ((Seg.runErr ((Seg.run ((Seg.run h l).1) m).1) ([key, key])) != 0)) rfl) rfl rfl rfl ?_
        refine o_or (p := 117) 20 ((decide (0 < ((((Seg.run ((Seg.run ((Seg.run h l).1) m).1) ([key, key])).1).old).length : Int)) && (((((Seg.run ((Seg.run ((Seg.run h l).1) m).1) ([key, key])).1).old).getD 0 default) == key)) && (!(Ref.hasInt (((Seg.run ((Seg.run ((Seg.run h l).1) m).1) ([key, key])).1).young) key))) ?_ ?_ ?_
        · intro hb43 hk
          simp only [bne_eq_false_iff_eq] at hb43
          refine o_unguard 97 rfl rfl ?_
          refine o_pure (p_fieldAddr (B := B40) (j := 0) (j' := 3) rfl fo58_3 rfl) rfl rfl rfl ?_
          refine o_unguard 97 rfl rfl ?_
          refine o_pure (p_load (i := 0) (v := .slice a36 (((Seg.run ((Seg.run ((Seg.run h l).1) m).1) ([key, key])).1).old).length c37) rfl rfl sh30 rfl) rfl rfl rfl ?_
          refine o_unguard 97 rfl rfl ?_
          refine o_pure (p_len_slice (len := (((Seg.run ((Seg.run ((Seg.run h l).1) m).1) ([key, key])).1).old).length) rfl rfl Try.underlying30) rfl rfl rfl ?_
          refine o_unguard 97 rfl rfl ?_
          refine o_pure (p_gt (p := ((((Seg.run ((Seg.run ((Seg.run h l).1) m).1) ([key, key])).1).old).length : Int)) (q := 0) rfl rfl) rfl rfl rfl ?_
          refine o_unguard 97 rfl rfl ?_
          refine o_pure (p_move (v := .bool (decide (0 < ((((Seg.run ((Seg.run ((Seg.run h l).1) m).1) ([key, key])).1).old).length : Int)))) rfl) rfl rfl rfl ?_
          refine o_and (p := 109) 7 (((((Seg.run ((Seg.run ((Seg.run h l).1) m).1) ([key, key])).1).old).getD 0 default) == key) ?_ ?_ ?_
          · intro hb44 hk
            simp only [decide_eq_true_eq] at hb44
            refine o_unguard 102 rfl rfl ?_
            refine o_pure (p_fieldAddr (B := B40) (j := 0) (j' := 3) rfl fo58_3 rfl) rfl rfl rfl ?_
            refine o_unguard 102 rfl rfl ?_
            refine o_pure (p_load (i := 0) (v := .slice a36 (((Seg.run ((Seg.run ((Seg.run h l).1) m).1) ([key, key])).1).old).length c37) rfl rfl sh30 rfl) rfl rfl rfl ?_
            refine o_unguard 102 rfl rfl ?_
            refine o_pure (p_indexAddr (L := ((Seg.run ((Seg.run ((Seg.run h l).1) m).1) ([key, key])).1).old) (T := tInt) (i := 0) rfl rfl (rd_ent (i := 1) rfl (fun w h => h.2)) Try.underlying30 sz3 (by omega) (by omega)) rfl rfl rfl ?_
            refine o_unguard 102 rfl rfl ?_
            refine o_pure (p_loadE1 (i := 0) (T := tInt) (L := ((Seg.run ((Seg.run ((Seg.run h l).1) m).1) ([key, key])).1).old) (v := .int .i64 ((((Seg.run ((Seg.run ((Seg.run h l).1) m).1) ([key, key])).1).old).getD 0 default)) rfl (rd_ent (i := 1) rfl (fun w h => h.2)) (by first | assumption | omega) sh3 (congrArg tInt.enc (getd_at (by first | assumption | omega) default))) rfl rfl rfl ?_
            refine o_unguard 102 rfl rfl ?_
            refine o_pure (p_move (v := .int .i64 key) rfl) rfl rfl rfl ?_
            refine o_unguard 102 rfl rfl ?_
            refine o_pure (p_eq (p := ((((Seg.run ((Seg.run ((Seg.run h l).1) m).1) ([key, key])).1).old).getD 0 default)) (q := key) rfl rfl) rfl rfl rfl ?_
            refine o_unguard 97 rfl rfl ?_
            refine o_pure (p_pick_true (u := .bool (((((Seg.run ((Seg.run ((Seg.run h l).1) m).1) ([key, key])).1).old).getD 0 default) == key)) rfl rfl) rfl rfl rfl ?_
            exact o_sub (Sub.cons rfl (Sub.skip rfl (Sub.skip rfl (Sub.skip rfl (Sub.skip rfl (Sub.skip rfl (Sub.skip rfl (Sub.skip rfl (Sub.skip rfl (Sub.refl _)))))))))) hk
          · intro hb44 hk
            refine o_guard_no rfl 102 rfl rfl rfl rfl rfl ?_
            refine o_guard_no rfl 102 rfl rfl rfl rfl rfl ?_
            refine o_guard_no rfl 102 rfl rfl rfl rfl rfl ?_
            refine o_guard_no rfl 102 rfl rfl rfl rfl rfl ?_
            refine o_guard_no rfl 102 rfl rfl rfl rfl rfl ?_
            refine o_guard_no rfl 102 rfl rfl rfl rfl rfl ?_
            refine o_unguard 97 rfl rfl ?_
            refine o_pure (p_pick_false (v := .bool false) rfl rfl) rfl rfl rfl ?_
            exact o_sub (Sub.cons rfl (Sub.skip rfl (Sub.skip rfl (Sub.skip rfl (Sub.skip rfl (Sub.skip rfl (Sub.skip rfl (Sub.skip rfl (Sub.skip rfl (Sub.refl _)))))))))) hk
          refine o_unguard 97 rfl rfl ?_
          refine o_pure (p_move (v := .bool (decide (0 < ((((Seg.run ((Seg.run ((Seg.run h l).1) m).1) ([key, key])).1).old).length : Int)) && (((((Seg.run ((Seg.run ((Seg.run h l).1) m).1) ([key, key])).1).old).getD 0 default) == key))) rfl) rfl rfl rfl ?_
          refine o_and (p := 116) 6 (!(Ref.hasInt (((Seg.run ((Seg.run ((Seg.run h l).1) m).1) ([key, key])).1).young) key)) ?_ ?_ ?_
          · intro hb45 hk
            simp only [Bool.and_eq_true, decide_eq_true_eq, beq_iff_eq] at hb45
            refine o_unguard 110 rfl rfl ?_
            refine o_pure (p_fieldAddr (B := B40) (j := 0) (j' := 2) rfl fo58_2 rfl) rfl rfl rfl ?_
            refine o_unguard 110 rfl rfl ?_
            refine o_pure (p_load (i := 0) (v := .slice a34 (((Seg.run ((Seg.run ((Seg.run h l).1) m).1) ([key, key])).1).young).length c35) rfl rfl sh30 rfl) rfl rfl rfl ?_
            refine o_unguard 110 rfl rfl ?_
            refine o_pure (p_move (v := .int .i64 key) rfl) rfl rfl rfl ?_
            refine o_unguard 110 rfl rfl ?_
            refine o_call0 (v := .bool (Ref.hasInt (((Seg.run ((Seg.run ((Seg.run h l).1) m).1) ([key, key])).1).young) key)) rfl (hasInt_ok (((Seg.run ((Seg.run ((Seg.run h l).1) m).1) ([key, key])).1).young) a34 c35 key) hf30 (fun w hw => (rd_ent (i := 1) rfl (fun w h => h.1)) w hw) rfl ?_
            refine o_unguard 110 rfl rfl ?_
            refine o_pure (p_not (b := (Ref.hasInt (((Seg.run ((Seg.run ((Seg.run h l).1) m).1) ([key, key])).1).young) key)) rfl) rfl rfl rfl ?_
            refine o_unguard 97 rfl rfl ?_
            refine o_pure (p_pick_true (u := .bool (!(Ref.hasInt (((Seg.run ((Seg.run ((Seg.run h l).1) m).1) ([key, key])).1).young) key))) rfl rfl) rfl rfl rfl ?_
            exact o_sub (Sub.cons rfl (Sub.skip rfl (Sub.skip rfl (Sub.skip rfl (Sub.skip rfl (Sub.skip rfl (Sub.skip rfl (Sub.skip rfl (Sub.refl _))))))))) hk
          · intro hb45 hk
            refine o_guard_no rfl 110 rfl rfl rfl rfl rfl ?_
            refine o_guard_no rfl 110 rfl rfl rfl rfl rfl ?_
            refine o_guard_no rfl 110 rfl rfl rfl rfl rfl ?_
            refine o_guard_no rfl 110 rfl rfl rfl rfl rfl ?_
            refine o_guard_no rfl 110 rfl rfl rfl rfl rfl ?_
            refine o_unguard 97 rfl rfl ?_
            refine o_pure (p_pick_false (v := .bool false) rfl rfl) rfl rfl rfl ?_
            exact o_sub (Sub.cons rfl (Sub.skip rfl (Sub.skip rfl (Sub.skip rfl (Sub.skip rfl (Sub.skip rfl (Sub.skip rfl (Sub.skip rfl (Sub.refl _))))))))) hk
          refine o_unguard 94 rfl rfl ?_
          refine o_pure (p_pick_false (v := .bool ((decide (0 < ((((Seg.run ((Seg.run ((Seg.run h l).1) m).1) ([key, key])).1).old).length : Int)) && (((((Seg.run ((Seg.run ((Seg.run h l).1) m).1) ([key, key])).1).old).getD 0 default) == key)) && (!(Ref.hasInt (((Seg.run ((Seg.run ((Seg.run h l).1) m).1) ([key, key])).1).young) key)))) rfl rfl) rfl rfl rfl ?_
          exact o_sub (Sub.cons rfl (Sub.skip rfl (Sub.skip rfl (Sub.skip rfl (Sub.skip rfl (Sub.skip rfl (Sub.skip rfl (Sub.skip rfl (Sub.skip rfl (Sub.refl _)))))))))) hk
        · intro hb43 hk
          refine o_guard_no rfl 97 rfl rfl rfl rfl rfl ?_
          refine o_guard_no rfl 97 rfl rfl rfl rfl rfl ?_
          refine o_guard_no rfl 97 rfl rfl rfl rfl rfl ?_
          refine o_guard_no rfl 97 rfl rfl rfl rfl rfl ?_
          refine o_guard_no rfl 97 rfl rfl rfl rfl rfl ?_
          refine o_guard_no rfl 102 rfl rfl rfl rfl rfl ?_
          refine o_guard_no rfl 102 rfl rfl rfl rfl rfl ?_
          refine o_guard_no rfl 102 rfl rfl rfl rfl rfl ?_
          refine o_guard_no rfl 102 rfl rfl rfl rfl rfl ?_
          refine o_guard_no rfl 102 rfl rfl rfl rfl rfl ?_
          refine o_guard_no rfl 102 rfl rfl rfl rfl rfl ?_
          refine o_guard_no rfl 97 rfl rfl rfl rfl rfl ?_
          refine o_guard_no rfl 97 rfl rfl rfl rfl rfl ?_
          refine o_guard_no rfl 110 rfl rfl rfl rfl rfl ?_
          refine o_guard_no rfl 110 rfl rfl rfl rfl rfl ?_
          refine o_guard_no rfl 110 rfl rfl rfl rfl rfl ?_
          refine o_guard_no rfl 110 rfl rfl rfl rfl rfl ?_
          refine o_guard_no rfl 110 rfl rfl rfl rfl rfl ?_
          refine o_guard_no rfl 97 rfl rfl rfl rfl rfl ?_
          refine o_unguard 94 rfl rfl ?_
          refine o_pure (p_pick_true (u := .bool true) rfl rfl) rfl rfl rfl ?_
          exact o_sub (Sub.cons rfl (Sub.skip rfl (Sub.skip rfl (Sub.skip rfl (Sub.skip rfl (Sub.skip rfl (Sub.skip rfl (Sub.skip rfl (Sub.skip rfl (Sub.skip rfl (Sub.skip rfl (Sub.skip rfl (Sub.skip rfl (Sub.skip rfl (Sub.skip rfl (Sub.skip rfl (Sub.skip rfl (Sub.skip rfl (Sub.skip rfl (Sub.skip rfl (Sub.skip rfl (Sub.skip rfl (Sub.refl _))))))))))))))))))))))) hk
        refine o_pure (p_pick_true (u := .bool (((Seg.runErr ((Seg.run ((Seg.run h l).1) m).1) ([key, key])) != 0) || ((decide (0 < ((((Seg.run ((Seg.run ((Seg.run h l).1) m).1) ([key, key])).1).old).length : Int)) && (((((Seg.run ((Seg.run ((Seg.run h l).1) m).1) ([key, key])).1).old).getD 0 default) == key)) && (!(Ref.hasInt (((Seg.run ((Seg.run ((Seg.run h l).1) m).1) ([key, key])).1).young) key))))) rfl rfl) rfl rfl rfl ?_
        exact o_sub (Sub.cons rfl (Sub.skip rfl (Sub.skip rfl (Sub.skip rfl (Sub.skip rfl (Sub.skip rfl (Sub.refl _))))))) hk
      · intro hb42 hk
        refine o_guard_no rfl 94 rfl rfl rfl rfl rfl ?_
        refine o_guard_no rfl 94 rfl rfl rfl rfl rfl ?_
        refine o_guard_no rfl 94 rfl rfl rfl rfl rfl ?_
        refine o_guard_no rfl 97 rfl rfl rfl rfl rfl ?_
        refine o_guard_no rfl 97 rfl rfl rfl rfl rfl ?_
        refine o_guard_no rfl 97 rfl rfl rfl rfl rfl ?_
        refine o_guard_no rfl 97 rfl rfl rfl rfl rfl ?_
        refine o_guard_no rfl 97 rfl rfl rfl rfl rfl ?_
        refine o_guard_no rfl 102 rfl rfl rfl rfl rfl ?_
        refine o_guard_no rfl 102 rfl rfl rfl rfl rfl ?_
        refine o_guard_no rfl 102 rfl rfl rfl rfl rfl ?_
        refine o_guard_no rfl 102 rfl rfl rfl rfl rfl ?_
        refine o_guard_no rfl 102 rfl rfl rfl rfl rfl ?_
        refine o_guard_no rfl 102 rfl rfl rfl rfl rfl ?_
        refine o_guard_no rfl 97 rfl rfl rfl rfl rfl ?_
        refine o_guard_no rfl 97 rfl rfl rfl rfl rfl ?_
        refine o_guard_no rfl 110 rfl rfl rfl rfl rfl ?_
        refine o_guard_no rfl 110 rfl rfl rfl rfl rfl ?_
        refine o_guard_no rfl 110 rfl rfl rfl rfl rfl ?_
        refine o_guard_no rfl 110 rfl rfl rfl rfl rfl ?_
        refine o_guard_no rfl 110 rfl rfl rfl rfl rfl ?_
        refine o_guard_no rfl 97 rfl rfl rfl rfl rfl ?_
        refine o_guard_no rfl 94 rfl rfl rfl rfl rfl ?_
        refine o_pure (p_pick_false (v := .bool false) rfl rfl) rfl rfl rfl ?_
        exact o_sub (Sub.cons rfl (Sub.skip rfl (Sub.skip rfl (Sub.skip rfl (Sub.skip rfl (Sub.skip rfl (Sub.skip rfl (Sub.skip rfl (Sub.skip rfl (Sub.skip rfl (Sub.skip rfl (Sub.skip rfl (Sub.skip rfl (Sub.skip rfl (Sub.skip rfl (Sub.skip rfl (Sub.skip rfl (Sub.skip rfl (Sub.skip rfl (Sub.skip rfl (Sub.skip rfl (Sub.skip rfl (Sub.skip rfl (Sub.skip rfl (Sub.skip rfl (Sub.skip rfl (Sub.refl _))))))))))))))))))))))))))) hk
      refine o_pure (p_assign (v := .bool (((decide (((Seg.run ((Seg.run h l).1) m).1) = ((Seg.run h (l ++ m)).1))) && (((Seg.run h (l ++ m)).2) == (((Seg.run h l).2) + ((Seg.run ((Seg.run h l).1) m).2)))) && (((Seg.runErr ((Seg.run ((Seg.run h l).1) m).1) ([key, key])) != 0) || ((decide (0 < ((((Seg.run ((Seg.run ((Seg.run h l).1) m).1) ([key, key])).1).old).length : Int)) && (((((Seg.run ((Seg.run ((Seg.run h l).1) m).1) ([key, key])).1).old).getD 0 default) == key)) && (!(Ref.hasInt (((Seg.run ((Seg.run ((Seg.run h l).1) m).1) ([key, key])).1).young) key)))))) rfl) rfl rfl rfl ?_
      refine o_nil ?_
      refine q_then ?_
      refine c_ret ?_
      have hr0 : ((((decide (((Seg.run ((Seg.run h l).1) m).1) = ((Seg.run h (l ++ m)).1))) && (((Seg.run h (l ++ m)).2) == (((Seg.run h l).2) + ((Seg.run ((Seg.run h l).1) m).2)))) && (((Seg.runErr ((Seg.run ((Seg.run h l).1) m).1) ([key, key])) != 0) || ((decide (0 < ((((Seg.run ((Seg.run ((Seg.run h l).1) m).1) ([key, key])).1).old).length : Int)) && (((((Seg.run ((Seg.run ((Seg.run h l).1) m).1) ([key, key])).1).old).getD 0 default) == key)) && (!(Ref.hasInt (((Seg.run ((Seg.run ((Seg.run h l).1) m).1) ([key, key])).1).young) key))))) : Bool) = true := by
        first | rfl | (rw [hz]; rfl) | exact Seg.parts_bool3 hrun (by assumption) | exact Seg.parts_end p1 p2 htw
      refine q_end0 (v := .bool (((decide (((Seg.run ((Seg.run h l).1) m).1) = ((Seg.run h (l ++ m)).1))) && (((Seg.run h (l ++ m)).2) == (((Seg.run h l).2) + ((Seg.run ((Seg.run h l).1) m).2)))) && (((Seg.runErr ((Seg.run ((Seg.run h l).1) m).1) ([key, key])) != 0) || ((decide (0 < ((((Seg.run ((Seg.run ((Seg.run h l).1) m).1) ([key, key])).1).old).length : Int)) && (((((Seg.run ((Seg.run ((Seg.run h l).1) m).1) ([key, key])).1).old).getD 0 default) == key)) && (!(Ref.hasInt (((Seg.run ((Seg.run ((Seg.run h l).1) m).1) ([key, key])).1).young) key)))))) (rt1 rfl (r_tmp rfl)) (i := 11) rfl ?_
      exact (by have hcc := congrArg (fun (y0 : Bool) => (.bool y0 : Value)) hr0; exact hcc)
end Go.Proofs.Ytkndekkacimekaa
