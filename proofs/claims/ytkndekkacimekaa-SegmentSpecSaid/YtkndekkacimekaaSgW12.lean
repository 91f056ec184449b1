/- The walks, printed by a program from the translation and a specification. -/
import Derived.Test.YtkndekkacimekaaSgF
import Derived.Test.YtkndekkacimekaaSgLaw
import Derived.Test.YtkndekkacimekaaSgW11
import Derived.Test.YtkndekkacimekaaSgW10
namespace Go.Proofs.Ytkndekkacimekaa
open Go.Sx Go.RowKit
set_option maxHeartbeats 8000000 in
set_option maxRecDepth 100000 in
theorem segmentSpec_ok (h : DHalls) (ah_0 : Option Addr) (ch_0 : Nat) (ah_1 : Option Addr) (ch_1 : Nat) (key : Int) (l : List Int) (al : Option Addr) (cl : Nat) : Fn0 Try.prog 9 [.agg #[.int .i64 h.first, .int .i64 h.second, .slice ah_0 h.young.length ch_0, .slice ah_1 h.old.length ch_1], .int .i64 key, .slice al l.length cl] (fun w => Rd tInt w ah_0 ch_0 h.young ∧ Rd tInt w ah_1 ch_1 h.old ∧ Rd tInt w al cl l) (.bool true) := by
  refine fn0 (nt := 133) (F0 := [(0, .agg #[.int .i64 h.first, .int .i64 h.second, .slice ah_0 h.young.length ch_0, .slice ah_1 h.old.length ch_1]), (1, .int .i64 key), (2, .slice al l.length cl)]) Try.func9 rfl Try.ntmps9 rfl rfl (fun w0 hpre => ?_)
  obtain ⟨hh_0, hh_1, hl⟩ := hpre
  have hlhh_0 := hh_0.2.1
  have hlhh_1 := hh_1.2.1
  have hlhl := hl.2.1
  refine c_seq ?_
  refine c_region ?_
  refine o_box (v := .agg #[.int .i64 h.first, .int .i64 h.second, .slice ah_0 h.young.length ch_0, .slice ah_1 h.old.length ch_1]) rfl rfl (fun B1 => ?_)
  refine o_pure (p_assign (v := .bool false) rfl) rfl rfl rfl ?_
  refine o_nil ?_
  refine q_then ?_
  refine c_seq ?_
  refine c_region ?_
  refine o_pure (p_load_agg (i := 0) (vs := [.int .i64 h.first, .int .i64 h.second, .slice ah_0 h.young.length ch_0, .slice ah_1 h.old.length ch_1]) rfl rfl sh58 rfl rfl) rfl rfl rfl ?_
  refine o_pure (p_move (v := .int .i64 key) rfl) rfl rfl rfl ?_
  refine o_callM rfl (saccess_ok h ah_0 ch_0 ah_1 ch_1 key) hf33 (fun w hw => ⟨(rd_base (i := 1) rfl hh_0) w hw, (rd_base (i := 1) rfl hh_1) w hw⟩) rfl (fun _ _ _ _ ha hA => ⟨SlR.agree ha hA.1, SlR.agree ha hA.2.1, SlR.agree ha hA.2.2⟩) ?_
  rintro ⟨a4, c5, a6, c7, a8, c9⟩ S2
  refine o_know (fun w hw => (hw.at (i := 0) rfl).here.1.2.1) (fun hlr10 => ?_)
  refine o_know (fun w hw => (hw.at (i := 0) rfl).here.2.1.2.1) (fun hlr11 => ?_)
  refine o_know (fun w hw => (hw.at (i := 0) rfl).here.2.2.2.1) (fun hlr12 => ?_)
  refine o_pure (p_move (v := .tuple #[.agg #[.int .i64 (((Seg.access h key).1).first), .int .i64 (((Seg.access h key).1).second), .slice a4 (((Seg.access h key).1).young).length c5, .slice a6 (((Seg.access h key).1).old).length c7], .bool ((Seg.access h key).2.1), .slice a8 ((Seg.access h key).2.2).length c9, .int .i64 (Seg.accessErr h key)]) rfl) rfl rfl rfl ?_
  refine o_pure (p_extract (vs := [.agg #[.int .i64 (((Seg.access h key).1).first), .int .i64 (((Seg.access h key).1).second), .slice a4 (((Seg.access h key).1).young).length c5, .slice a6 (((Seg.access h key).1).old).length c7], .bool ((Seg.access h key).2.1), .slice a8 ((Seg.access h key).2.2).length c9, .int .i64 (Seg.accessErr h key)]) (v := .agg #[.int .i64 (((Seg.access h key).1).first), .int .i64 (((Seg.access h key).1).second), .slice a4 (((Seg.access h key).1).young).length c5, .slice a6 (((Seg.access h key).1).old).length c7]) rfl rfl) rfl rfl rfl ?_
  refine o_pure (p_extract (vs := [.agg #[.int .i64 (((Seg.access h key).1).first), .int .i64 (((Seg.access h key).1).second), .slice a4 (((Seg.access h key).1).young).length c5, .slice a6 (((Seg.access h key).1).old).length c7], .bool ((Seg.access h key).2.1), .slice a8 ((Seg.access h key).2.2).length c9, .int .i64 (Seg.accessErr h key)]) (v := .bool ((Seg.access h key).2.1)) rfl rfl) rfl rfl rfl ?_
  refine o_pure (p_extract (vs := [.agg #[.int .i64 (((Seg.access h key).1).first), .int .i64 (((Seg.access h key).1).second), .slice a4 (((Seg.access h key).1).young).length c5, .slice a6 (((Seg.access h key).1).old).length c7], .bool ((Seg.access h key).2.1), .slice a8 ((Seg.access h key).2.2).length c9, .int .i64 (Seg.accessErr h key)]) (v := .slice a8 ((Seg.access h key).2.2).length c9) rfl rfl) rfl rfl rfl ?_
  refine o_pure (p_extract (vs := [.agg #[.int .i64 (((Seg.access h key).1).first), .int .i64 (((Seg.access h key).1).second), .slice a4 (((Seg.access h key).1).young).length c5, .slice a6 (((Seg.access h key).1).old).length c7], .bool ((Seg.access h key).2.1), .slice a8 ((Seg.access h key).2.2).length c9, .int .i64 (Seg.accessErr h key)]) (v := .int .i64 (Seg.accessErr h key)) rfl rfl) rfl rfl rfl ?_
  refine o_alloc ze58 rfl (fun B13 => ?_)
  refine o_storeN (i := 0) (vs := [.int .i64 (((Seg.access h key).1).first), .int .i64 (((Seg.access h key).1).second), .slice a4 (((Seg.access h key).1).young).length c5, .slice a6 (((Seg.access h key).1).old).length c7]) (cs' := [.int .i64 (((Seg.access h key).1).first), .int .i64 (((Seg.access h key).1).second), .slice a4 (((Seg.access h key).1).young).length c5, .slice a6 (((Seg.access h key).1).old).length c7]) rfl rfl rfl sz58 rfl rfl rfl rfl ?_
  refine o_pure (p_assign (v := .bool ((Seg.access h key).2.1)) rfl) rfl rfl rfl ?_
  refine o_pure (p_assign (v := .slice a8 ((Seg.access h key).2.2).length c9) rfl) rfl rfl rfl ?_
  refine o_pure (p_assign (v := .int .i64 (Seg.accessErr h key)) rfl) rfl rfl rfl ?_
  refine o_nil ?_
  refine q_then ?_
  refine c_seq ?_
  refine c_region ?_
  refine o_pure (p_load_agg (i := 2) (vs := [.int .i64 h.first, .int .i64 h.second, .slice ah_0 h.young.length ch_0, .slice ah_1 h.old.length ch_1]) rfl rfl sh58 rfl rfl) rfl rfl rfl ?_
  refine o_pure (p_move (v := .slice al l.length cl) rfl) rfl rfl rfl ?_
  refine o_callM rfl (srun_ok h ah_0 ch_0 ah_1 ch_1 l al cl) hf34 (fun w hw => ⟨(rd_base (i := 3) rfl hh_0) w hw, (rd_base (i := 3) rfl hh_1) w hw, (rd_base (i := 3) rfl hl) w hw⟩) rfl (fun _ _ _ _ ha hA => ⟨SlR.agree ha hA.1, SlR.agree ha hA.2⟩) ?_
  rintro ⟨a16, c17, a18, c19⟩ S14
  refine o_know (fun w hw => (hw.at (i := 0) rfl).here.1.2.1) (fun hlr20 => ?_)
  refine o_know (fun w hw => (hw.at (i := 0) rfl).here.2.2.1) (fun hlr21 => ?_)
  refine o_pure (p_move (v := .tuple #[.agg #[.int .i64 (((Seg.run h l).1).first), .int .i64 (((Seg.run h l).1).second), .slice a16 (((Seg.run h l).1).young).length c17, .slice a18 (((Seg.run h l).1).old).length c19], .int .i64 ((Seg.run h l).2), .int .i64 (Seg.runErr h l)]) rfl) rfl rfl rfl ?_
  refine o_pure (p_extract (vs := [.agg #[.int .i64 (((Seg.run h l).1).first), .int .i64 (((Seg.run h l).1).second), .slice a16 (((Seg.run h l).1).young).length c17, .slice a18 (((Seg.run h l).1).old).length c19], .int .i64 ((Seg.run h l).2), .int .i64 (Seg.runErr h l)]) (v := .agg #[.int .i64 (((Seg.run h l).1).first), .int .i64 (((Seg.run h l).1).second), .slice a16 (((Seg.run h l).1).young).length c17, .slice a18 (((Seg.run h l).1).old).length c19]) rfl rfl) rfl rfl rfl ?_
  refine o_pure (p_extract (vs := [.agg #[.int .i64 (((Seg.run h l).1).first), .int .i64 (((Seg.run h l).1).second), .slice a16 (((Seg.run h l).1).young).length c17, .slice a18 (((Seg.run h l).1).old).length c19], .int .i64 ((Seg.run h l).2), .int .i64 (Seg.runErr h l)]) (v := .int .i64 ((Seg.run h l).2)) rfl rfl) rfl rfl rfl ?_
  refine o_pure (p_extract (vs := [.agg #[.int .i64 (((Seg.run h l).1).first), .int .i64 (((Seg.run h l).1).second), .slice a16 (((Seg.run h l).1).young).length c17, .slice a18 (((Seg.run h l).1).old).length c19], .int .i64 ((Seg.run h l).2), .int .i64 (Seg.runErr h l)]) (v := .int .i64 (Seg.runErr h l)) rfl rfl) rfl rfl rfl ?_
  refine o_alloc ze58 rfl (fun B22 => ?_)
  refine o_storeN (i := 0) (vs := [.int .i64 (((Seg.run h l).1).first), .int .i64 (((Seg.run h l).1).second), .slice a16 (((Seg.run h l).1).young).length c17, .slice a18 (((Seg.run h l).1).old).length c19]) (cs' := [.int .i64 (((Seg.run h l).1).first), .int .i64 (((Seg.run h l).1).second), .slice a16 (((Seg.run h l).1).young).length c17, .slice a18 (((Seg.run h l).1).old).length c19]) rfl rfl rfl sz58 rfl rfl rfl rfl ?_
  refine o_pure (p_assign (v := .int .i64 ((Seg.run h l).2)) rfl) rfl rfl rfl ?_
  refine o_pure (p_assign (v := .int .i64 (Seg.runErr h l)) rfl) rfl rfl rfl ?_
  refine o_nil ?_
  refine q_then ?_
  refine c_seq ?_
  refine c_region ?_
  refine o_pure (p_load_agg (i := 4) (vs := [.int .i64 h.first, .int .i64 h.second, .slice ah_0 h.young.length ch_0, .slice ah_1 h.old.length ch_1]) rfl rfl sh58 rfl rfl) rfl rfl rfl ?_
  refine o_callM rfl (skeys_ok h ah_0 ch_0 ah_1 ch_1) hf35 (fun w hw => ⟨(rd_base (i := 5) rfl hh_0) w hw, (rd_base (i := 5) rfl hh_1) w hw⟩) rfl (fun _ _ _ _ ha hA => SlO.agree ha hA) ?_
  rintro ⟨a25, c26⟩ S23
  refine o_know (fun w hw => own_len (i := 0) (T := tInt) hw rfl) (fun hlr27 => ?_)
  refine o_pure (p_move (v := .tuple #[.slice a25 (Seg.flat h).length c26, .int .i64 (Seg.check h)]) rfl) rfl rfl rfl ?_
  refine o_pure (p_extract (vs := [.slice a25 (Seg.flat h).length c26, .int .i64 (Seg.check h)]) (v := .slice a25 (Seg.flat h).length c26) rfl rfl) rfl rfl rfl ?_
  refine o_pure (p_extract (vs := [.slice a25 (Seg.flat h).length c26, .int .i64 (Seg.check h)]) (v := .int .i64 (Seg.check h)) rfl rfl) rfl rfl rfl ?_
  refine o_pure (p_assign (v := .slice a25 (Seg.flat h).length c26) rfl) rfl rfl rfl ?_
  refine o_pure (p_assign (v := .int .i64 (Seg.check h)) rfl) rfl rfl rfl ?_
  refine o_nil ?_
  refine q_then ?_
  refine c_seq ?_
  refine c_region ?_
  refine o_pure (p_load_agg (i := 5) (vs := [.int .i64 h.first, .int .i64 h.second, .slice ah_0 h.young.length ch_0, .slice ah_1 h.old.length ch_1]) rfl rfl sh58 rfl rfl) rfl rfl rfl ?_
  refine o_call0 (v := .int .i64 (Seg.check h)) rfl (rscheck_ok h ah_0 ch_0 ah_1 ch_1) hf36 (fun w hw => ⟨(rd_base (i := 6) rfl hh_0) w hw, (rd_base (i := 6) rfl hh_1) w hw⟩) rfl ?_
  refine o_pure (p_assign (v := .int .i64 (Seg.check h)) rfl) rfl rfl rfl ?_
  refine o_nil ?_
  refine q_then ?_
  refine c_seq ?_
  refine c_region ?_
  refine o_pure (p_move (v := .int .i64 (Seg.check h)) rfl) rfl rfl rfl ?_
  refine o_pure (p_move (v := .int .i64 (Seg.check h)) rfl) rfl rfl rfl ?_
  refine o_pure (p_assign (v := .int .i64 (Seg.check h)) rfl) rfl rfl rfl ?_
  refine o_pure (p_assign (v := .int .i64 (Seg.check h)) rfl) rfl rfl rfl ?_
  refine o_nil ?_
  refine q_then ?_
  refine c_seq ?_
  refine c_region ?_
  refine o_alloc ze58 rfl (fun B28 => ?_)
  refine o_alloc ze58 rfl (fun B29 => ?_)
  refine o_nil ?_
  refine q_then ?_
  refine c_seq ?_
  refine c_region ?_
  refine o_pure (p_assign (v := .bool false) rfl) rfl rfl rfl ?_
  refine o_pure (p_assign (v := .int .i64 0) rfl) rfl rfl rfl ?_
  refine o_nil ?_
  refine q_then ?_
  refine c_seq ?_
  refine c_region ?_
  refine o_pure (p_assign (v := .slice none 0 0) rfl) rfl rfl rfl ?_
  refine o_pure (p_assign (v := .slice none 0 0) rfl) rfl rfl rfl ?_
  refine o_nil ?_
  refine q_then ?_
  refine c_seq ?_
  refine c_seq ?_
  refine c_region ?_
  refine o_pure (p_move (v := .int .i64 (Seg.check h)) rfl) rfl rfl rfl ?_
  refine o_pure (p_eq (p := (Seg.check h)) (q := 0) rfl rfl) rfl rfl rfl ?_
  refine o_nil ?_
  refine q_then ?_
  refine c_cond (b := ((Seg.check h) == 0)) rfl (fun hc30 => ?_) (fun hc30 => ?_)
  · simp only [beq_iff_eq] at hc30
    have hck := hc30
    have hok := Seg.ok_of hck
    have hm := Seg.flat2 hck
    have hfr := hok.first
    have hse := hok.second
    have hl1 := hok.len1
    have hl2 := hok.len2
    refine c_seq ?_
    refine c_seq ?_
    refine c_region ?_
    refine o_pure (p_move (v := .int .i64 key) rfl) rfl rfl rfl ?_
    refine o_pure (p_lt (p := key) (q := 0) rfl rfl) rfl rfl rfl ?_
    refine o_pure (p_move (v := .bool (decide (key < 0))) rfl) rfl rfl rfl ?_
    refine o_or (p := 56) 3 (decide (1048576 < key)) ?_ ?_ ?_
    · intro hb31 hk
      simp only [decide_eq_false_iff_not, Int.not_lt] at hb31
      refine o_unguard 53 rfl rfl ?_
      refine o_pure (p_move (v := .int .i64 key) rfl) rfl rfl rfl ?_
      refine o_unguard 53 rfl rfl ?_
      refine o_pure (p_gt (p := key) (q := 1048576) rfl rfl) rfl rfl rfl ?_
      refine o_pure (p_pick_false (v := .bool (decide (1048576 < key))) rfl rfl) rfl rfl rfl ?_
      exact o_sub (Sub.cons rfl (Sub.skip rfl (Sub.skip rfl (Sub.skip rfl (Sub.skip rfl (Sub.refl _)))))) hk
    · intro hb31 hk
      refine o_guard_no rfl 53 rfl rfl rfl rfl rfl ?_
      refine o_guard_no rfl 53 rfl rfl rfl rfl rfl ?_
      refine o_pure (p_pick_true (u := .bool true) rfl rfl) rfl rfl rfl ?_
      exact o_sub (Sub.cons rfl (Sub.skip rfl (Sub.skip rfl (Sub.skip rfl (Sub.skip rfl (Sub.refl _)))))) hk
    refine o_nil ?_
    refine q_then ?_
    refine c_heap (H' := [loose tInt (False) (fun _ => False) none 0 ([] : List Int), box B29 [.int .i64 0, .int .i64 0, .slice none 0 0, .slice none 0 0] 58, box B28 [.int .i64 0, .int .i64 0, .slice none 0 0, .slice none 0 0] 58, own tInt S23 a25 c26 (Seg.flat h), box B22 [.int .i64 (((Seg.run h l).1).first), .int .i64 (((Seg.run h l).1).second), .slice a16 (((Seg.run h l).1).young).length c17, .slice a18 (((Seg.run h l).1).old).length c19] 58, ⟨S14, fun w => SlR tInt S14 w a16 c17 (((Seg.run h l).1).young) ∧ SlR tInt S14 w a18 c19 (((Seg.run h l).1).old)⟩, box B13 [.int .i64 (((Seg.access h key).1).first), .int .i64 (((Seg.access h key).1).second), .slice a4 (((Seg.access h key).1).young).length c5, .slice a6 (((Seg.access h key).1).old).length c7] 58, ⟨S2, fun w => SlR tInt S2 w a4 c5 (((Seg.access h key).1).young) ∧ SlR tInt S2 w a6 c7 (((Seg.access h key).1).old) ∧ SlR tInt S2 w a8 c9 ((Seg.access h key).2.2)⟩, box B1 [.int .i64 h.first, .int .i64 h.second, .slice ah_0 h.young.length ch_0, .slice ah_1 h.old.length ch_1] 58, base w0]) (fun w hw => HeapIs.looseNil tInt hw) ?_
    refine c_heap (H' := [loose tInt (False) (fun _ => False) none 0 ([] : List Int), loose tInt (False) (fun _ => False) none 0 ([] : List Int), box B29 [.int .i64 0, .int .i64 0, .slice none 0 0, .slice none 0 0] 58, box B28 [.int .i64 0, .int .i64 0, .slice none 0 0, .slice none 0 0] 58, own tInt S23 a25 c26 (Seg.flat h), box B22 [.int .i64 (((Seg.run h l).1).first), .int .i64 (((Seg.run h l).1).second), .slice a16 (((Seg.run h l).1).young).length c17, .slice a18 (((Seg.run h l).1).old).length c19] 58, ⟨S14, fun w => SlR tInt S14 w a16 c17 (((Seg.run h l).1).young) ∧ SlR tInt S14 w a18 c19 (((Seg.run h l).1).old)⟩, box B13 [.int .i64 (((Seg.access h key).1).first), .int .i64 (((Seg.access h key).1).second), .slice a4 (((Seg.access h key).1).young).length c5, .slice a6 (((Seg.access h key).1).old).length c7] 58, ⟨S2, fun w => SlR tInt S2 w a4 c5 (((Seg.access h key).1).young) ∧ SlR tInt S2 w a6 c7 (((Seg.access h key).1).old) ∧ SlR tInt S2 w a8 c9 ((Seg.access h key).2.2)⟩, box B1 [.int .i64 h.first, .int .i64 h.second, .slice ah_0 h.young.length ch_0, .slice ah_1 h.old.length ch_1] 58, base w0]) (fun w hw => HeapIs.looseNil tInt hw) ?_
    refine c_heap (H' := [loose tInt (False) (fun _ => False) none 0 ([] : List Int), loose tInt (False) (fun _ => False) none 0 ([] : List Int), loose tInt (False) (fun _ => False) none 0 ([] : List Int), box B29 [.int .i64 0, .int .i64 0, .slice none 0 0, .slice none 0 0] 58, box B28 [.int .i64 0, .int .i64 0, .slice none 0 0, .slice none 0 0] 58, own tInt S23 a25 c26 (Seg.flat h), box B22 [.int .i64 (((Seg.run h l).1).first), .int .i64 (((Seg.run h l).1).second), .slice a16 (((Seg.run h l).1).young).length c17, .slice a18 (((Seg.run h l).1).old).length c19] 58, ⟨S14, fun w => SlR tInt S14 w a16 c17 (((Seg.run h l).1).young) ∧ SlR tInt S14 w a18 c19 (((Seg.run h l).1).old)⟩, box B13 [.int .i64 (((Seg.access h key).1).first), .int .i64 (((Seg.access h key).1).second), .slice a4 (((Seg.access h key).1).young).length c5, .slice a6 (((Seg.access h key).1).old).length c7] 58, ⟨S2, fun w => SlR tInt S2 w a4 c5 (((Seg.access h key).1).young) ∧ SlR tInt S2 w a6 c7 (((Seg.access h key).1).old) ∧ SlR tInt S2 w a8 c9 ((Seg.access h key).2.2)⟩, box B1 [.int .i64 h.first, .int .i64 h.second, .slice ah_0 h.young.length ch_0, .slice ah_1 h.old.length ch_1] 58, base w0]) (fun w hw => HeapIs.looseNil tInt hw) ?_
    refine c_join (G := Int × Bool × List Int × Option Addr × Nat × (Nat → Prop) × DHalls × Option Addr × Nat × (Nat → Prop) × Option Addr × Nat × (Nat → Prop))
      (fun ⟨v, is_, less, aless, cless, Sless, tc, atc_0, ctc_0, Stc_0, atc_1, ctc_1, Stc_1⟩ => [(2, .slice al l.length cl), (3, .pointer (some ⟨B1, 0, none⟩)), (7, .pointer (some ⟨B13, 0, none⟩)), (8, .bool ((Seg.access h key).2.1)), (9, .slice a8 ((Seg.access h key).2.2).length c9), (10, .int .i64 (Seg.accessErr h key)), (11, .pointer (some ⟨B22, 0, none⟩)), (12, .int .i64 ((Seg.run h l).2)), (13, .int .i64 (Seg.runErr h l)), (14, .slice a25 (Seg.flat h).length c26), (15, .int .i64 (Seg.check h)), (16, .int .i64 (Seg.check h)), (17, .int .i64 v), (19, .pointer (some ⟨B28, 0, none⟩)), (20, .pointer (some ⟨B29, 0, none⟩)), (21, .bool is_), (22, .int .i64 0), (23, .slice aless less.length cless)])
      (fun ⟨v, is_, less, aless, cless, Sless, tc, atc_0, ctc_0, Stc_0, atc_1, ctc_1, Stc_1⟩ => [loose tInt (False) Stc_1 atc_1 ctc_1 tc.old, loose tInt (False) Stc_0 atc_0 ctc_0 tc.young, loose tInt (False) Sless aless cless less, box B29 [.int .i64 0, .int .i64 0, .slice none 0 0, .slice none 0 0] 58, box B28 [.int .i64 tc.first, .int .i64 tc.second, .slice atc_0 tc.young.length ctc_0, .slice atc_1 tc.old.length ctc_1] 58, own tInt S23 a25 c26 (Seg.flat h), box B22 [.int .i64 (((Seg.run h l).1).first), .int .i64 (((Seg.run h l).1).second), .slice a16 (((Seg.run h l).1).young).length c17, .slice a18 (((Seg.run h l).1).old).length c19] 58, ⟨S14, fun w => SlR tInt S14 w a16 c17 (((Seg.run h l).1).young) ∧ SlR tInt S14 w a18 c19 (((Seg.run h l).1).old)⟩, box B13 [.int .i64 (((Seg.access h key).1).first), .int .i64 (((Seg.access h key).1).second), .slice a4 (((Seg.access h key).1).young).length c5, .slice a6 (((Seg.access h key).1).old).length c7] 58, ⟨S2, fun w => SlR tInt S2 w a4 c5 (((Seg.access h key).1).young) ∧ SlR tInt S2 w a6 c7 (((Seg.access h key).1).old) ∧ SlR tInt S2 w a8 c9 ((Seg.access h key).2.2)⟩, box B1 [.int .i64 h.first, .int .i64 h.second, .slice ah_0 h.young.length ch_0, .slice ah_1 h.old.length ch_1] 58, base w0])
      (fun ⟨v, is_, less, aless, cless, Sless, tc, atc_0, ctc_0, Stc_0, atc_1, ctc_1, Stc_1⟩ => less = (Seg.access h key).2.2 ∧ v = Seg.accessErr h key ∧ tc = (Seg.access h key).1 ∧ is_ = (Seg.access h key).2.1)
      (fun K hK35 => ?_) ?_
    · refine c_cond (b := (decide (key < 0) || decide (1048576 < key))) rfl (fun hc36 => ?_) (fun hc36 => ?_)
      · simp only [Bool.or_eq_true, decide_eq_true_eq] at hc36
        have hkb : Lru.okKey key = false := by simp only [Lru.okKey]; rcases hc36 with h | h <;> simp <;> omega
        obtain ⟨a1, a2⟩ := Seg.acc2 (key := key) ⟨hck, hkb⟩
        refine c_region ?_
        refine o_pure (p_assign (v := .int .i64 3) rfl) rfl rfl rfl ?_
        refine o_nil ?_
        refine q_heap (H' := [loose tInt (False) (fun _ => False) none 0 ([] : List Int), loose tInt (False) (fun _ => False) none 0 ([] : List Int), loose tInt (False) (fun _ => False) none 0 ([] : List Int), loose tInt (False) (fun _ => False) none 0 ([] : List Int), box B29 [.int .i64 0, .int .i64 0, .slice none 0 0, .slice none 0 0] 58, box B28 [.int .i64 0, .int .i64 0, .slice none 0 0, .slice none 0 0] 58, own tInt S23 a25 c26 (Seg.flat h), box B22 [.int .i64 (((Seg.run h l).1).first), .int .i64 (((Seg.run h l).1).second), .slice a16 (((Seg.run h l).1).young).length c17, .slice a18 (((Seg.run h l).1).old).length c19] 58, ⟨S14, fun w => SlR tInt S14 w a16 c17 (((Seg.run h l).1).young) ∧ SlR tInt S14 w a18 c19 (((Seg.run h l).1).old)⟩, box B13 [.int .i64 (((Seg.access h key).1).first), .int .i64 (((Seg.access h key).1).second), .slice a4 (((Seg.access h key).1).young).length c5, .slice a6 (((Seg.access h key).1).old).length c7] 58, ⟨S2, fun w => SlR tInt S2 w a4 c5 (((Seg.access h key).1).young) ∧ SlR tInt S2 w a6 c7 (((Seg.access h key).1).old) ∧ SlR tInt S2 w a8 c9 ((Seg.access h key).2.2)⟩, box B1 [.int .i64 h.first, .int .i64 h.second, .slice ah_0 h.young.length ch_0, .slice ah_1 h.old.length ch_1] 58, base w0]) (fun w hw => HeapIs.looseNil tInt hw) ?_
        refine q_heap (H' := [loose tInt (False) (fun _ => False) none 0 ([] : List Int), loose tInt (False) (fun _ => False) none 0 ([] : List Int), loose tInt (False) (fun _ => False) none 0 ([] : List Int), loose tInt (False) (fun _ => False) none 0 ([] : List Int), loose tInt (False) (fun _ => False) none 0 ([] : List Int), box B29 [.int .i64 0, .int .i64 0, .slice none 0 0, .slice none 0 0] 58, box B28 [.int .i64 0, .int .i64 0, .slice none ([] : List Int).length 0, .slice none 0 0] 58, own tInt S23 a25 c26 (Seg.flat h), box B22 [.int .i64 (((Seg.run h l).1).first), .int .i64 (((Seg.run h l).1).second), .slice a16 (((Seg.run h l).1).young).length c17, .slice a18 (((Seg.run h l).1).old).length c19] 58, ⟨S14, fun w => SlR tInt S14 w a16 c17 (((Seg.run h l).1).young) ∧ SlR tInt S14 w a18 c19 (((Seg.run h l).1).old)⟩, box B13 [.int .i64 (((Seg.access h key).1).first), .int .i64 (((Seg.access h key).1).second), .slice a4 (((Seg.access h key).1).young).length c5, .slice a6 (((Seg.access h key).1).old).length c7] 58, ⟨S2, fun w => SlR tInt S2 w a4 c5 (((Seg.access h key).1).young) ∧ SlR tInt S2 w a6 c7 (((Seg.access h key).1).old) ∧ SlR tInt S2 w a8 c9 ((Seg.access h key).2.2)⟩, box B1 [.int .i64 h.first, .int .i64 h.second, .slice ah_0 h.young.length ch_0, .slice ah_1 h.old.length ch_1] 58, base w0]) (fun w hw => HeapIs.looseNil tInt hw) ?_
        refine q_join hK35 (3, false, ([] : List Int), none, 0, (fun _ => False), (⟨0, 0, ([] : List Int), ([] : List Int)⟩ : DHalls), none, 0, (fun _ => False), none, 0, (fun _ => False)) ?_ (Sub.cons rfl (Sub.cons rfl (Sub.cons rfl (Sub.cons rfl (Sub.cons rfl (Sub.cons rfl (Sub.cons rfl (Sub.cons rfl (Sub.cons rfl (Sub.cons rfl (Sub.cons rfl (Sub.cons rfl (Sub.cons rfl (Sub.cons rfl (Sub.cons rfl (Sub.cons rfl (Sub.cons rfl (Sub.cons rfl (Sub.nil _))))))))))))))))))) (fun _ hw => HeapIs.pick hw [0, 1, 4, 5, 6, 7, 8, 9, 10, 11, 12, 13] (by decide) rfl)
        clear hK35
        rw [a1, a2]
        first | exact ⟨rfl, rfl, rfl, rfl⟩ | exact ⟨rfl, hck, rfl, rfl⟩
      · simp only [Bool.or_eq_false_iff, decide_eq_false_iff_not, Int.not_lt] at hc36
        have hkey : Lru.okKey key = true := by simp only [Lru.okKey, Bool.and_eq_true, decide_eq_true_eq]; omega
        obtain ⟨a1, a2⟩ := Seg.acc3 (key := key) (.inr hkey) hck
        refine c_region ?_
        refine o_pure (p_load_agg (i := 10) (vs := [.int .i64 h.first, .int .i64 h.second, .slice ah_0 h.young.length ch_0, .slice ah_1 h.old.length ch_1]) rfl rfl sh58 rfl rfl) rfl rfl rfl ?_
        refine o_pure (p_move (v := .int .i64 key) rfl) rfl rfl rfl ?_
        refine o_callX (pre := []) (R := [loose tInt (False) (fun _ => False) none 0 ([] : List Int), loose tInt (False) (fun _ => False) none 0 ([] : List Int), loose tInt (False) (fun _ => False) none 0 ([] : List Int), box B29 [.int .i64 0, .int .i64 0, .slice none 0 0, .slice none 0 0] 58, box B28 [.int .i64 0, .int .i64 0, .slice none 0 0, .slice none 0 0] 58, own tInt S23 a25 c26 (Seg.flat h), box B22 [.int .i64 (((Seg.run h l).1).first), .int .i64 (((Seg.run h l).1).second), .slice a16 (((Seg.run h l).1).young).length c17, .slice a18 (((Seg.run h l).1).old).length c19] 58, ⟨S14, fun w => SlR tInt S14 w a16 c17 (((Seg.run h l).1).young) ∧ SlR tInt S14 w a18 c19 (((Seg.run h l).1).old)⟩, box B13 [.int .i64 (((Seg.access h key).1).first), .int .i64 (((Seg.access h key).1).second), .slice a4 (((Seg.access h key).1).young).length c5, .slice a6 (((Seg.access h key).1).old).length c7] 58, ⟨S2, fun w => SlR tInt S2 w a4 c5 (((Seg.access h key).1).young) ∧ SlR tInt S2 w a6 c7 (((Seg.access h key).1).old) ∧ SlR tInt S2 w a8 c9 ((Seg.access h key).2.2)⟩, box B1 [.int .i64 h.first, .int .i64 h.second, .slice ah_0 h.young.length ch_0, .slice ah_1 h.old.length ch_1] 58, base w0]) rfl (rstouch_ok h ah_0 ch_0 ah_1 ch_1 key (by first | assumption | exact ⟨hok, hkey⟩ | exact ⟨hI.ok, hI.key _ (List.getElem_mem (by omega))⟩)) hf37 rfl (fun w hw => ⟨(rdX (i := 11) (js := []) rfl (by decide) rfl (fun _ hA => slR_base hh_0 hA)) w hw, (rdX (i := 11) (js := []) rfl (by decide) rfl (fun _ hA => slR_base hh_1 hA)) w hw⟩) rfl ?_
        rintro ⟨a39, c40, S41, a42, c43, S44, a45, c46, S47⟩
        refine o_asH (H' := [own tInt S41 a39 c40 (((Seg.touch h key).1).young), own tInt S44 a42 c43 (((Seg.touch h key).1).old), own tInt S47 a45 c46 ((Seg.touch h key).2.2), loose tInt (False) (fun _ => False) none 0 ([] : List Int), loose tInt (False) (fun _ => False) none 0 ([] : List Int), loose tInt (False) (fun _ => False) none 0 ([] : List Int), box B29 [.int .i64 0, .int .i64 0, .slice none 0 0, .slice none 0 0] 58, box B28 [.int .i64 0, .int .i64 0, .slice none 0 0, .slice none 0 0] 58, own tInt S23 a25 c26 (Seg.flat h), box B22 [.int .i64 (((Seg.run h l).1).first), .int .i64 (((Seg.run h l).1).second), .slice a16 (((Seg.run h l).1).young).length c17, .slice a18 (((Seg.run h l).1).old).length c19] 58, ⟨S14, fun w => SlR tInt S14 w a16 c17 (((Seg.run h l).1).young) ∧ SlR tInt S14 w a18 c19 (((Seg.run h l).1).old)⟩, box B13 [.int .i64 (((Seg.access h key).1).first), .int .i64 (((Seg.access h key).1).second), .slice a4 (((Seg.access h key).1).young).length c5, .slice a6 (((Seg.access h key).1).old).length c7] 58, ⟨S2, fun w => SlR tInt S2 w a4 c5 (((Seg.access h key).1).young) ∧ SlR tInt S2 w a6 c7 (((Seg.access h key).1).old) ∧ SlR tInt S2 w a8 c9 ((Seg.access h key).2.2)⟩, box B1 [.int .i64 h.first, .int .i64 h.second, .slice ah_0 h.young.length ch_0, .slice ah_1 h.old.length ch_1] 58, base w0]) rfl ?_
        refine o_pure (p_move (v := .tuple #[.agg #[.int .i64 (((Seg.touch h key).1).first), .int .i64 (((Seg.touch h key).1).second), .slice a39 (((Seg.touch h key).1).young).length c40, .slice a42 (((Seg.touch h key).1).old).length c43], .bool ((Seg.touch h key).2.1), .slice a45 ((Seg.touch h key).2.2).length c46]) rfl) rfl rfl rfl ?_
        refine o_pure (p_extract (vs := [.agg #[.int .i64 (((Seg.touch h key).1).first), .int .i64 (((Seg.touch h key).1).second), .slice a39 (((Seg.touch h key).1).young).length c40, .slice a42 (((Seg.touch h key).1).old).length c43], .bool ((Seg.touch h key).2.1), .slice a45 ((Seg.touch h key).2.2).length c46]) (v := .agg #[.int .i64 (((Seg.touch h key).1).first), .int .i64 (((Seg.touch h key).1).second), .slice a39 (((Seg.touch h key).1).young).length c40, .slice a42 (((Seg.touch h key).1).old).length c43]) rfl rfl) rfl rfl rfl ?_
        refine o_pure (p_extract (vs := [.agg #[.int .i64 (((Seg.touch h key).1).first), .int .i64 (((Seg.touch h key).1).second), .slice a39 (((Seg.touch h key).1).young).length c40, .slice a42 (((Seg.touch h key).1).old).length c43], .bool ((Seg.touch h key).2.1), .slice a45 ((Seg.touch h key).2.2).length c46]) (v := .bool ((Seg.touch h key).2.1)) rfl rfl) rfl rfl rfl ?_
        refine o_pure (p_extract (vs := [.agg #[.int .i64 (((Seg.touch h key).1).first), .int .i64 (((Seg.touch h key).1).second), .slice a39 (((Seg.touch h key).1).young).length c40, .slice a42 (((Seg.touch h key).1).old).length c43], .bool ((Seg.touch h key).2.1), .slice a45 ((Seg.touch h key).2.2).length c46]) (v := .slice a45 ((Seg.touch h key).2.2).length c46) rfl rfl) rfl rfl rfl ?_
        refine o_storeN (i := 7) (vs := [.int .i64 (((Seg.touch h key).1).first), .int .i64 (((Seg.touch h key).1).second), .slice a39 (((Seg.touch h key).1).young).length c40, .slice a42 (((Seg.touch h key).1).old).length c43]) (cs' := [.int .i64 (((Seg.touch h key).1).first), .int .i64 (((Seg.touch h key).1).second), .slice a39 (((Seg.touch h key).1).young).length c40, .slice a42 (((Seg.touch h key).1).old).length c43]) rfl rfl rfl sz58 rfl rfl rfl rfl ?_
        refine o_pure (p_assign (v := .bool ((Seg.touch h key).2.1)) rfl) rfl rfl rfl ?_
        refine o_pure (p_assign (v := .slice a45 ((Seg.touch h key).2.2).length c46) rfl) rfl rfl rfl ?_
        refine o_nil ?_
        refine q_heap (H' := [own tInt S41 a39 c40 (((Seg.touch h key).1).young), own tInt S44 a42 c43 (((Seg.touch h key).1).old), loose tInt (False) S47 a45 c46 ((Seg.touch h key).2.2), loose tInt (False) (fun _ => False) none 0 ([] : List Int), loose tInt (False) (fun _ => False) none 0 ([] : List Int), loose tInt (False) (fun _ => False) none 0 ([] : List Int), box B29 [.int .i64 0, .int .i64 0, .slice none 0 0, .slice none 0 0] 58, box B28 [.int .i64 (((Seg.touch h key).1).first), .int .i64 (((Seg.touch h key).1).second), .slice a39 (((Seg.touch h key).1).young).length c40, .slice a42 (((Seg.touch h key).1).old).length c43] 58, own tInt S23 a25 c26 (Seg.flat h), box B22 [.int .i64 (((Seg.run h l).1).first), .int .i64 (((Seg.run h l).1).second), .slice a16 (((Seg.run h l).1).young).length c17, .slice a18 (((Seg.run h l).1).old).length c19] 58, ⟨S14, fun w => SlR tInt S14 w a16 c17 (((Seg.run h l).1).young) ∧ SlR tInt S14 w a18 c19 (((Seg.run h l).1).old)⟩, box B13 [.int .i64 (((Seg.access h key).1).first), .int .i64 (((Seg.access h key).1).second), .slice a4 (((Seg.access h key).1).young).length c5, .slice a6 (((Seg.access h key).1).old).length c7] 58, ⟨S2, fun w => SlR tInt S2 w a4 c5 (((Seg.access h key).1).young) ∧ SlR tInt S2 w a6 c7 (((Seg.access h key).1).old) ∧ SlR tInt S2 w a8 c9 ((Seg.access h key).2.2)⟩, box B1 [.int .i64 h.first, .int .i64 h.second, .slice ah_0 h.young.length ch_0, .slice ah_1 h.old.length ch_1] 58, base w0]) (fun w hw => HeapIs.toLoose (i := 2) (T := tInt) rfl hw) ?_
        refine q_heap (H' := [loose tInt (False) S41 a39 c40 (((Seg.touch h key).1).young), own tInt S44 a42 c43 (((Seg.touch h key).1).old), loose tInt (False) S47 a45 c46 ((Seg.touch h key).2.2), loose tInt (False) (fun _ => False) none 0 ([] : List Int), loose tInt (False) (fun _ => False) none 0 ([] : List Int), loose tInt (False) (fun _ => False) none 0 ([] : List Int), box B29 [.int .i64 0, .int .i64 0, .slice none 0 0, .slice none 0 0] 58, box B28 [.int .i64 (((Seg.touch h key).1).first), .int .i64 (((Seg.touch h key).1).second), .slice a39 (((Seg.touch h key).1).young).length c40, .slice a42 (((Seg.touch h key).1).old).length c43] 58, own tInt S23 a25 c26 (Seg.flat h), box B22 [.int .i64 (((Seg.run h l).1).first), .int .i64 (((Seg.run h l).1).second), .slice a16 (((Seg.run h l).1).young).length c17, .slice a18 (((Seg.run h l).1).old).length c19] 58, ⟨S14, fun w => SlR tInt S14 w a16 c17 (((Seg.run h l).1).young) ∧ SlR tInt S14 w a18 c19 (((Seg.run h l).1).old)⟩, box B13 [.int .i64 (((Seg.access h key).1).first), .int .i64 (((Seg.access h key).1).second), .slice a4 (((Seg.access h key).1).young).length c5, .slice a6 (((Seg.access h key).1).old).length c7] 58, ⟨S2, fun w => SlR tInt S2 w a4 c5 (((Seg.access h key).1).young) ∧ SlR tInt S2 w a6 c7 (((Seg.access h key).1).old) ∧ SlR tInt S2 w a8 c9 ((Seg.access h key).2.2)⟩, box B1 [.int .i64 h.first, .int .i64 h.second, .slice ah_0 h.young.length ch_0, .slice ah_1 h.old.length ch_1] 58, base w0]) (fun w hw => HeapIs.toLoose (i := 0) (T := tInt) rfl hw) ?_
        refine q_heap (H' := [loose tInt (False) S41 a39 c40 (((Seg.touch h key).1).young), loose tInt (False) S44 a42 c43 (((Seg.touch h key).1).old), loose tInt (False) S47 a45 c46 ((Seg.touch h key).2.2), loose tInt (False) (fun _ => False) none 0 ([] : List Int), loose tInt (False) (fun _ => False) none 0 ([] : List Int), loose tInt (False) (fun _ => False) none 0 ([] : List Int), box B29 [.int .i64 0, .int .i64 0, .slice none 0 0, .slice none 0 0] 58, box B28 [.int .i64 (((Seg.touch h key).1).first), .int .i64 (((Seg.touch h key).1).second), .slice a39 (((Seg.touch h key).1).young).length c40, .slice a42 (((Seg.touch h key).1).old).length c43] 58, own tInt S23 a25 c26 (Seg.flat h), box B22 [.int .i64 (((Seg.run h l).1).first), .int .i64 (((Seg.run h l).1).second), .slice a16 (((Seg.run h l).1).young).length c17, .slice a18 (((Seg.run h l).1).old).length c19] 58, ⟨S14, fun w => SlR tInt S14 w a16 c17 (((Seg.run h l).1).young) ∧ SlR tInt S14 w a18 c19 (((Seg.run h l).1).old)⟩, box B13 [.int .i64 (((Seg.access h key).1).first), .int .i64 (((Seg.access h key).1).second), .slice a4 (((Seg.access h key).1).young).length c5, .slice a6 (((Seg.access h key).1).old).length c7] 58, ⟨S2, fun w => SlR tInt S2 w a4 c5 (((Seg.access h key).1).young) ∧ SlR tInt S2 w a6 c7 (((Seg.access h key).1).old) ∧ SlR tInt S2 w a8 c9 ((Seg.access h key).2.2)⟩, box B1 [.int .i64 h.first, .int .i64 h.second, .slice ah_0 h.young.length ch_0, .slice ah_1 h.old.length ch_1] 58, base w0]) (fun w hw => HeapIs.toLoose (i := 1) (T := tInt) rfl hw) ?_
        refine q_join hK35 ((Seg.check h), ((Seg.touch h key).2.1), ((Seg.touch h key).2.2), a45, c46, S47, ((Seg.touch h key).1), a39, c40, S41, a42, c43, S44) ?_ (Sub.cons rfl (Sub.cons rfl (Sub.cons rfl (Sub.cons rfl (Sub.cons rfl (Sub.cons rfl (Sub.cons rfl (Sub.cons rfl (Sub.cons rfl (Sub.cons rfl (Sub.cons rfl (Sub.cons rfl (Sub.cons rfl (Sub.cons rfl (Sub.cons rfl (Sub.cons rfl (Sub.cons rfl (Sub.cons rfl (Sub.nil _))))))))))))))))))) (fun _ hw => HeapIs.pick hw [1, 0, 2, 6, 7, 8, 9, 10, 11, 12, 13, 14] (by decide) rfl)
        clear hK35
        rw [a1, a2]
        first | exact ⟨rfl, rfl, rfl, rfl⟩ | exact ⟨rfl, hck, rfl, rfl⟩
    rintro ⟨v, is_, less, aless, cless, Sless, tc, atc_0, ctc_0, Stc_0, atc_1, ctc_1, Stc_1⟩ hj1
    show SQ _ 133 w0 _ _ [(2, .slice al l.length cl), (3, .pointer (some ⟨B1, 0, none⟩)), (7, .pointer (some ⟨B13, 0, none⟩)), (8, .bool ((Seg.access h key).2.1)), (9, .slice a8 ((Seg.access h key).2.2).length c9), (10, .int .i64 (Seg.accessErr h key)), (11, .pointer (some ⟨B22, 0, none⟩)), (12, .int .i64 ((Seg.run h l).2)), (13, .int .i64 (Seg.runErr h l)), (14, .slice a25 (Seg.flat h).length c26), (15, .int .i64 (Seg.check h)), (16, .int .i64 (Seg.check h)), (17, .int .i64 v), (19, .pointer (some ⟨B28, 0, none⟩)), (20, .pointer (some ⟨B29, 0, none⟩)), (21, .bool is_), (22, .int .i64 0), (23, .slice aless less.length cless)] [loose tInt (False) Stc_1 atc_1 ctc_1 tc.old, loose tInt (False) Stc_0 atc_0 ctc_0 tc.young, loose tInt (False) Sless aless cless less, box B29 [.int .i64 0, .int .i64 0, .slice none 0 0, .slice none 0 0] 58, box B28 [.int .i64 tc.first, .int .i64 tc.second, .slice atc_0 tc.young.length ctc_0, .slice atc_1 tc.old.length ctc_1] 58, own tInt S23 a25 c26 (Seg.flat h), box B22 [.int .i64 (((Seg.run h l).1).first), .int .i64 (((Seg.run h l).1).second), .slice a16 (((Seg.run h l).1).young).length c17, .slice a18 (((Seg.run h l).1).old).length c19] 58, ⟨S14, fun w => SlR tInt S14 w a16 c17 (((Seg.run h l).1).young) ∧ SlR tInt S14 w a18 c19 (((Seg.run h l).1).old)⟩, box B13 [.int .i64 (((Seg.access h key).1).first), .int .i64 (((Seg.access h key).1).second), .slice a4 (((Seg.access h key).1).young).length c5, .slice a6 (((Seg.access h key).1).old).length c7] 58, ⟨S2, fun w => SlR tInt S2 w a4 c5 (((Seg.access h key).1).young) ∧ SlR tInt S2 w a6 c7 (((Seg.access h key).1).old) ∧ SlR tInt S2 w a8 c9 ((Seg.access h key).2.2)⟩, box B1 [.int .i64 h.first, .int .i64 h.second, .slice ah_0 h.young.length ch_0, .slice ah_1 h.old.length ch_1] 58, base w0]
    refine q_then ?_
    refine c_seq ?_
    refine c_seq ?_
    refine c_region ?_
    refine o_pure (p_move (v := .slice al l.length cl) rfl) rfl rfl rfl ?_
    refine o_call0 (v := .int .i64 (Lru.trace l)) rfl (traceCheck_ok l al cl) hf38 (fun w hw => (rd_base (i := 11) rfl hl) w hw) rfl ?_
    refine o_pure (p_assign (v := .int .i64 (Lru.trace l)) rfl) rfl rfl rfl ?_
    refine o_nil ?_
    refine q_then ?_
    refine c_seq ?_
    refine c_region ?_
    refine o_pure (p_move (v := .int .i64 (Lru.trace l)) rfl) rfl rfl rfl ?_
    refine o_pure (p_eq (p := (Lru.trace l)) (q := 0) rfl rfl) rfl rfl rfl ?_
    refine o_nil ?_
    refine q_then ?_
    refine c_cond (b := ((Lru.trace l) == 0)) rfl (fun hc51 => ?_) (fun hc51 => ?_)
    · simp only [beq_iff_eq] at hc51
      have hkeys := (Lru.trace_ok.1 hc51).2
      have htr := hc51
      obtain ⟨b1, b2⟩ := Seg.run3 hck hc51
      refine c_region ?_
      refine o_pure (p_load_agg (i := 10) (vs := [.int .i64 h.first, .int .i64 h.second, .slice ah_0 h.young.length ch_0, .slice ah_1 h.old.length ch_1]) rfl rfl sh58 rfl rfl) rfl rfl rfl ?_
      refine o_pure (p_move (v := .slice al l.length cl) rfl) rfl rfl rfl ?_
      refine o_callM rfl (rsrun_ok h ah_0 ch_0 ah_1 ch_1 l al cl (by first | assumption | exact ⟨hok, hkeys⟩)) hf39 (fun w hw => ⟨(rd_base (i := 11) rfl hh_0) w hw, (rd_base (i := 11) rfl hh_1) w hw, (rd_base (i := 11) rfl hl) w hw⟩) rfl (fun _ _ _ _ ha hA => ⟨hA.1.imp (fun h => SlR.agree ha h) id, hA.2.imp (fun h => SlR.agree ha h) id⟩) ?_
      rintro ⟨a54, c55, a56, c57⟩ S52
      refine o_pure (p_move (v := .tuple #[.agg #[.int .i64 (((Seg.runGo h 0 l).1).first), .int .i64 (((Seg.runGo h 0 l).1).second), .slice a54 (((Seg.runGo h 0 l).1).young).length c55, .slice a56 (((Seg.runGo h 0 l).1).old).length c57], .int .i64 ((Seg.runGo h 0 l).2)]) rfl) rfl rfl rfl ?_
      refine o_pure (p_extract (vs := [.agg #[.int .i64 (((Seg.runGo h 0 l).1).first), .int .i64 (((Seg.runGo h 0 l).1).second), .slice a54 (((Seg.runGo h 0 l).1).young).length c55, .slice a56 (((Seg.runGo h 0 l).1).old).length c57], .int .i64 ((Seg.runGo h 0 l).2)]) (v := .agg #[.int .i64 (((Seg.runGo h 0 l).1).first), .int .i64 (((Seg.runGo h 0 l).1).second), .slice a54 (((Seg.runGo h 0 l).1).young).length c55, .slice a56 (((Seg.runGo h 0 l).1).old).length c57]) rfl rfl) rfl rfl rfl ?_
      refine o_pure (p_extract (vs := [.agg #[.int .i64 (((Seg.runGo h 0 l).1).first), .int .i64 (((Seg.runGo h 0 l).1).second), .slice a54 (((Seg.runGo h 0 l).1).young).length c55, .slice a56 (((Seg.runGo h 0 l).1).old).length c57], .int .i64 ((Seg.runGo h 0 l).2)]) (v := .int .i64 ((Seg.runGo h 0 l).2)) rfl rfl) rfl rfl rfl ?_
      refine o_storeN (i := 4) (vs := [.int .i64 (((Seg.runGo h 0 l).1).first), .int .i64 (((Seg.runGo h 0 l).1).second), .slice a54 (((Seg.runGo h 0 l).1).young).length c55, .slice a56 (((Seg.runGo h 0 l).1).old).length c57]) (cs' := [.int .i64 (((Seg.runGo h 0 l).1).first), .int .i64 (((Seg.runGo h 0 l).1).second), .slice a54 (((Seg.runGo h 0 l).1).young).length c55, .slice a56 (((Seg.runGo h 0 l).1).old).length c57]) rfl rfl rfl sz58 rfl rfl rfl rfl ?_
      refine o_pure (p_assign (v := .int .i64 ((Seg.runGo h 0 l).2)) rfl) rfl rfl rfl ?_
      refine o_nil ?_
      refine q_then ?_
      refine c_held hmix [⟨S52, fun w => (SlR tInt S52 w a54 c55 (((Seg.runGo h 0 l).1).young) ∨ (a54 = ah_0 ∧ c55 = ch_0 ∧ (((Seg.runGo h 0 l).1).young) = h.young)) ∧ (SlR tInt S52 w a56 c57 (((Seg.runGo h 0 l).1).old) ∨ (a56 = ah_1 ∧ c57 = ch_1 ∧ (((Seg.runGo h 0 l).1).old) = h.old))⟩, loose tInt (False) Stc_1 atc_1 ctc_1 tc.old, loose tInt (False) Stc_0 atc_0 ctc_0 tc.young, loose tInt (False) Sless aless cless less, box B29 [.int .i64 (((Seg.runGo h 0 l).1).first), .int .i64 (((Seg.runGo h 0 l).1).second), .slice a54 (((Seg.runGo h 0 l).1).young).length c55, .slice a56 (((Seg.runGo h 0 l).1).old).length c57] 58, box B28 [.int .i64 tc.first, .int .i64 tc.second, .slice atc_0 tc.young.length ctc_0, .slice atc_1 tc.old.length ctc_1] 58, own tInt S23 a25 c26 (Seg.flat h), box B22 [.int .i64 (((Seg.run h l).1).first), .int .i64 (((Seg.run h l).1).second), .slice a16 (((Seg.run h l).1).young).length c17, .slice a18 (((Seg.run h l).1).old).length c19] 58, ⟨S14, fun w => SlR tInt S14 w a16 c17 (((Seg.run h l).1).young) ∧ SlR tInt S14 w a18 c19 (((Seg.run h l).1).old)⟩, box B13 [.int .i64 (((Seg.access h key).1).first), .int .i64 (((Seg.access h key).1).second), .slice a4 (((Seg.access h key).1).young).length c5, .slice a6 (((Seg.access h key).1).old).length c7] 58, ⟨S2, fun w => SlR tInt S2 w a4 c5 (((Seg.access h key).1).young) ∧ SlR tInt S2 w a6 c7 (((Seg.access h key).1).old) ∧ SlR tInt S2 w a8 c9 ((Seg.access h key).2.2)⟩, box B1 [.int .i64 h.first, .int .i64 h.second, .slice ah_0 h.young.length ch_0, .slice ah_1 h.old.length ch_1] 58, base w0] rfl rfl ?_
      refine h_take (i := 1) (ls := #[false, true, false, false, false, false, false, false]) rfl (by kernel_rfl) (by kernel_rfl) (by kernel_rfl) (fun _ _ _ h => h) (p_fieldAddr (B := B1) (j := 0) (j' := 2) rfl fo58_2 rfl) rfl rfl rfl (fun _ hw => HeapIs.drop hw (List.Sublist.refl _)) rfl ?_
      refine h_take (i := 2) (ls := #[false, true, true, false, false, false, false, false]) rfl (by kernel_rfl) (by kernel_rfl) (by kernel_rfl) (fun _ _ _ h => h) (p_load (i := 11) (v := .slice ah_0 h.young.length ch_0) rfl rfl sh30 rfl) rfl rfl rfl (fun _ hw => HeapIs.drop hw (List.Sublist.refl _)) rfl ?_
      refine h_take (i := 4) (ls := #[false, true, true, false, true, false, false, false]) rfl (by kernel_rfl) (by kernel_rfl) (by kernel_rfl) (fun _ _ _ h => h) (p_fieldAddr (B := B1) (j := 0) (j' := 3) rfl fo58_3 rfl) rfl rfl rfl (fun _ hw => HeapIs.drop hw (List.Sublist.refl _)) rfl ?_
      refine h_take (i := 5) (ls := #[false, true, true, false, true, true, false, false]) rfl (by kernel_rfl) (by kernel_rfl) (by kernel_rfl) (fun _ _ _ h => h) (p_load (i := 11) (v := .slice ah_1 h.old.length ch_1) rfl rfl sh30 rfl) rfl rfl rfl (fun _ hw => HeapIs.drop hw (List.Sublist.refl _)) rfl ?_
      refine h_one (i := 0) (ls := #[true, true, true, false, true, true, false, false]) (by kernel_rfl) rfl rfl ?_
      refine o_buildSlice (m := 0) (T := tInt) (L := []) (vs := []) rfl rfl rfl rfl Try.underlying30 sz3 (by decide) ze3 rfl (by decide) rfl (fun S60_0 a60_0 => ?_)
      refine o_nil ?_
      refine h_next (fun _ hw => HeapIs.drop hw (List.Sublist.cons _ (List.Sublist.cons_cons _ (List.Sublist.cons_cons _ (List.Sublist.cons_cons _ (List.Sublist.cons_cons _ (List.Sublist.cons_cons _ (List.Sublist.cons_cons _ (List.Sublist.cons_cons _ (List.Sublist.cons_cons _ (List.Sublist.cons_cons _ (List.Sublist.cons_cons _ (List.Sublist.cons_cons _ (List.Sublist.cons_cons _ (List.Sublist.cons_cons _ (List.Sublist.slnil)))))))))))))))) ?_
      refine h_one (i := 3) (ls := #[true, true, true, true, true, true, false, false]) (by kernel_rfl) rfl rfl ?_
      refine o_append (i := 0) (L := []) (M := h.young) (T := tInt) rfl rfl rfl (rd_base (i := 13) rfl hh_0) Try.underlying30 Try.underlying30 (by intro k h; cases h) el3 (by intro z; simp [tInt, one1]) (by decide) (by first | omega | (simp only [List.length_cons, List.length_nil]; omega) | (simp only [List.length_append, List.length_cons, List.length_nil, List.length_take, List.length_drop]; omega)) rfl (fun a60_3 c60_3 S60_3 => ?_)
      refine o_nil ?_
      refine h_next (fun _ hw => HeapIs.drop hw (List.Sublist.cons _ (List.Sublist.cons_cons _ (List.Sublist.cons_cons _ (List.Sublist.cons_cons _ (List.Sublist.cons_cons _ (List.Sublist.cons_cons _ (List.Sublist.cons_cons _ (List.Sublist.cons_cons _ (List.Sublist.cons_cons _ (List.Sublist.cons_cons _ (List.Sublist.cons_cons _ (List.Sublist.cons_cons _ (List.Sublist.cons_cons _ (List.Sublist.cons_cons _ (List.Sublist.slnil)))))))))))))))) ?_
      refine h_one (i := 6) (ls := #[true, true, true, true, true, true, true, false]) (by kernel_rfl) rfl rfl ?_
      refine o_append (i := 0) (L := h.young) (M := h.old) (T := tInt) rfl rfl rfl (rd_base (i := 13) rfl hh_1) Try.underlying30 Try.underlying30 (by intro k h; cases h) el3 (by intro z; simp [tInt, one1]) (by decide) (by first | omega | (simp only [List.length_cons, List.length_nil]; omega) | (simp only [List.length_append, List.length_cons, List.length_nil, List.length_take, List.length_drop]; omega)) rfl (fun a60_6 c60_6 S60_6 => ?_)
      refine o_nil ?_
      refine h_next (fun _ hw => HeapIs.drop hw (List.Sublist.cons _ (List.Sublist.cons_cons _ (List.Sublist.cons_cons _ (List.Sublist.cons_cons _ (List.Sublist.cons_cons _ (List.Sublist.cons_cons _ (List.Sublist.cons_cons _ (List.Sublist.cons_cons _ (List.Sublist.cons_cons _ (List.Sublist.cons_cons _ (List.Sublist.cons_cons _ (List.Sublist.cons_cons _ (List.Sublist.cons_cons _ (List.Sublist.cons_cons _ (List.Sublist.slnil)))))))))))))))) ?_
      refine h_take (i := 7) (ls := #[true, true, true, true, true, true, true, true]) rfl (by kernel_rfl) (by kernel_rfl) (by kernel_rfl) (fun _ _ _ h => h) (p_assign (v := .slice a60_6 (h.young ++ h.old).length c60_6) rfl) rfl rfl rfl (fun _ hw => HeapIs.drop hw (List.Sublist.cons _ (List.Sublist.cons_cons _ (List.Sublist.cons_cons _ (List.Sublist.cons_cons _ (List.Sublist.cons_cons _ (List.Sublist.cons_cons _ (List.Sublist.cons_cons _ (List.Sublist.cons_cons _ (List.Sublist.cons_cons _ (List.Sublist.cons_cons _ (List.Sublist.cons_cons _ (List.Sublist.cons_cons _ (List.Sublist.cons_cons _ (List.Sublist.cons_cons _ (List.Sublist.slnil)))))))))))))))) rfl ?_
      refine h_done (by kernel_rfl) ?_
      refine q_then ?_
      refine c_seq ?_
      refine c_region ?_
      refine o_call0 (v := .bool true) rfl (hallsBegun_ok ) hf40 (fun _ _ => trivial) rfl ?_
      refine o_pure (p_move (v := .bool true) rfl) rfl rfl rfl ?_
      refine o_unguard 82 rfl rfl ?_
      refine o_pure (p_load_agg (i := 12) (vs := [.int .i64 h.first, .int .i64 h.second, .slice ah_0 h.young.length ch_0, .slice ah_1 h.old.length ch_1]) rfl rfl sh58 rfl rfl) rfl rfl rfl ?_
      refine o_unguard 82 rfl rfl ?_
      refine o_call0 (v := .int .i64 (Seg.check h)) rfl (scheck_ok h ah_0 ch_0 ah_1 ch_1) hf41 (fun w hw => ⟨(rd_base (i := 13) rfl hh_0) w hw, (rd_base (i := 13) rfl hh_1) w hw⟩) rfl ?_
      refine o_unguard 82 rfl rfl ?_
      refine o_pure (p_move (v := .int .i64 (Seg.check h)) rfl) rfl rfl rfl ?_
      refine o_unguard 82 rfl rfl ?_
      refine o_pure (p_eq (p := (Seg.check h)) (q := (Seg.check h)) rfl rfl) rfl rfl rfl ?_
      refine o_pure (p_pick_true (u := .bool ((Seg.check h) == (Seg.check h))) rfl rfl) rfl rfl rfl ?_
      refine o_pure (p_move (v := .bool ((Seg.check h) == (Seg.check h))) rfl) rfl rfl rfl ?_
      refine o_and (p := 92) 4 (decide (((Seg.access h key).1) = tc)) ?_ ?_ ?_
      · intro hb61 hk
        simp only [beq_iff_eq] at hb61
        refine o_unguard 88 rfl rfl ?_
        refine o_pure (p_load_agg (i := 10) (vs := [.int .i64 (((Seg.access h key).1).first), .int .i64 (((Seg.access h key).1).second), .slice a4 (((Seg.access h key).1).young).length c5, .slice a6 (((Seg.access h key).1).old).length c7]) rfl rfl sh58 rfl rfl) rfl rfl rfl ?_
        refine o_unguard 88 rfl rfl ?_
        refine o_pure (p_load_agg (i := 6) (vs := [.int .i64 tc.first, .int .i64 tc.second, .slice atc_0 tc.young.length ctc_0, .slice atc_1 tc.old.length ctc_1]) rfl rfl sh58 rfl rfl) rfl rfl rfl ?_
        refine o_unguard 88 rfl rfl ?_
        refine o_call0 (v := .bool (decide (((Seg.access h key).1) = tc))) rfl (sameHalls_ok ((Seg.access h key).1) a4 c5 a6 c7 tc atc_0 ctc_0 atc_1 ctc_1) hf42 (fun w hw => ⟨(rd_ent (i := 11) rfl (fun w h => h.1)) w hw, (rd_ent (i := 11) rfl (fun w h => h.2.1)) w hw, (rd_loose (i := 3) rfl (fun hφ => hφ.elim)) w hw, (rd_loose (i := 2) rfl (fun hφ => hφ.elim)) w hw⟩) rfl ?_
        refine o_pure (p_pick_true (u := .bool (decide (((Seg.access h key).1) = tc))) rfl rfl) rfl rfl rfl ?_
        exact o_sub (Sub.cons rfl (Sub.skip rfl (Sub.skip rfl (Sub.skip rfl (Sub.skip rfl (Sub.skip rfl (Sub.refl _))))))) hk
      · intro hb61 hk
        refine o_guard_no rfl 88 rfl rfl rfl rfl rfl ?_
        refine o_guard_no rfl 88 rfl rfl rfl rfl rfl ?_
        refine o_guard_no rfl 88 rfl rfl rfl rfl rfl ?_
        refine o_pure (p_pick_false (v := .bool false) rfl rfl) rfl rfl rfl ?_
        exact o_sub (Sub.cons rfl (Sub.skip rfl (Sub.skip rfl (Sub.skip rfl (Sub.skip rfl (Sub.skip rfl (Sub.refl _))))))) hk
      refine o_pure (p_move (v := .bool (((Seg.check h) == (Seg.check h)) && (decide (((Seg.access h key).1) = tc)))) rfl) rfl rfl rfl ?_
      refine o_and (p := 97) 4 (((Seg.access h key).2.1) == is_) ?_ ?_ ?_
      · intro hb62 hk
        simp only [Bool.and_eq_true, beq_iff_eq, decide_eq_true_eq] at hb62
        refine o_unguard 93 rfl rfl ?_
        refine o_pure (p_move (v := .bool ((Seg.access h key).2.1)) rfl) rfl rfl rfl ?_
        refine o_unguard 93 rfl rfl ?_
        refine o_pure (p_move (v := .bool is_) rfl) rfl rfl rfl ?_
        refine o_unguard 93 rfl rfl ?_
        refine o_pure (p_eqBool (b := ((Seg.access h key).2.1)) (c := is_) rfl rfl Try.underlying4) rfl rfl rfl ?_
        refine o_pure (p_pick_true (u := .bool (((Seg.access h key).2.1) == is_)) rfl rfl) rfl rfl rfl ?_
        exact o_sub (Sub.cons rfl (Sub.skip rfl (Sub.skip rfl (Sub.skip rfl (Sub.skip rfl (Sub.skip rfl (Sub.refl _))))))) hk
      · intro hb62 hk
        refine o_guard_no rfl 93 rfl rfl rfl rfl rfl ?_
        refine o_guard_no rfl 93 rfl rfl rfl rfl rfl ?_
        refine o_guard_no rfl 93 rfl rfl rfl rfl rfl ?_
        refine o_pure (p_pick_false (v := .bool false) rfl rfl) rfl rfl rfl ?_
        exact o_sub (Sub.cons rfl (Sub.skip rfl (Sub.skip rfl (Sub.skip rfl (Sub.skip rfl (Sub.skip rfl (Sub.refl _))))))) hk
      refine o_pure (p_move (v := .bool ((((Seg.check h) == (Seg.check h)) && (decide (((Seg.access h key).1) = tc))) && (((Seg.access h key).2.1) == is_))) rfl) rfl rfl rfl ?_
      refine o_and (p := 102) 4 (Ref.sameInts ((Seg.access h key).2.2) less) ?_ ?_ ?_
      · intro hb63 hk
        simp only [Bool.and_eq_true, beq_iff_eq, decide_eq_true_eq] at hb63
        refine o_unguard 98 rfl rfl ?_
        refine o_pure (p_move (v := .slice a8 ((Seg.access h key).2.2).length c9) rfl) rfl rfl rfl ?_
        refine o_unguard 98 rfl rfl ?_
        refine o_pure (p_move (v := .slice aless less.length cless) rfl) rfl rfl rfl ?_
        refine o_unguard 98 rfl rfl ?_
        refine o_call0 (v := .bool (Ref.sameInts ((Seg.access h key).2.2) less)) rfl (sameInts_ok ((Seg.access h key).2.2) a8 c9 less aless cless) hf27 (fun w hw => ⟨(rd_ent (i := 11) rfl (fun w h => h.2.2)) w hw, (rd_loose (i := 4) rfl (fun hφ => hφ.elim)) w hw⟩) rfl ?_
        refine o_pure (p_pick_true (u := .bool (Ref.sameInts ((Seg.access h key).2.2) less)) rfl rfl) rfl rfl rfl ?_
        exact o_sub (Sub.cons rfl (Sub.skip rfl (Sub.skip rfl (Sub.skip rfl (Sub.skip rfl (Sub.skip rfl (Sub.refl _))))))) hk
      · intro hb63 hk
        refine o_guard_no rfl 98 rfl rfl rfl rfl rfl ?_
        refine o_guard_no rfl 98 rfl rfl rfl rfl rfl ?_
        refine o_guard_no rfl 98 rfl rfl rfl rfl rfl ?_
        refine o_pure (p_pick_false (v := .bool false) rfl rfl) rfl rfl rfl ?_
        exact o_sub (Sub.cons rfl (Sub.skip rfl (Sub.skip rfl (Sub.skip rfl (Sub.skip rfl (Sub.skip rfl (Sub.refl _))))))) hk
      refine o_pure (p_move (v := .bool (((((Seg.check h) == (Seg.check h)) && (decide (((Seg.access h key).1) = tc))) && (((Seg.access h key).2.1) == is_)) && (Ref.sameInts ((Seg.access h key).2.2) less))) rfl) rfl rfl rfl ?_
      refine o_and (p := 107) 4 ((Seg.accessErr h key) == v) ?_ ?_ ?_
      · intro hb64 hk
        simp only [Bool.and_eq_true, beq_iff_eq, decide_eq_true_eq] at hb64
        refine o_unguard 103 rfl rfl ?_
        refine o_pure (p_move (v := .int .i64 (Seg.accessErr h key)) rfl) rfl rfl rfl ?_
        refine o_unguard 103 rfl rfl ?_
        refine o_pure (p_move (v := .int .i64 v) rfl) rfl rfl rfl ?_
        refine o_unguard 103 rfl rfl ?_
        refine o_pure (p_eq (p := (Seg.accessErr h key)) (q := v) rfl rfl) rfl rfl rfl ?_
        refine o_pure (p_pick_true (u := .bool ((Seg.accessErr h key) == v)) rfl rfl) rfl rfl rfl ?_
        exact o_sub (Sub.cons rfl (Sub.skip rfl (Sub.skip rfl (Sub.skip rfl (Sub.skip rfl (Sub.skip rfl (Sub.refl _))))))) hk
      · intro hb64 hk
        refine o_guard_no rfl 103 rfl rfl rfl rfl rfl ?_
        refine o_guard_no rfl 103 rfl rfl rfl rfl rfl ?_
        refine o_guard_no rfl 103 rfl rfl rfl rfl rfl ?_
        refine o_pure (p_pick_false (v := .bool false) rfl rfl) rfl rfl rfl ?_
        exact o_sub (Sub.cons rfl (Sub.skip rfl (Sub.skip rfl (Sub.skip rfl (Sub.skip rfl (Sub.skip rfl (Sub.refl _))))))) hk
      refine o_pure (p_move (v := .bool ((((((Seg.check h) == (Seg.check h)) && (decide (((Seg.access h key).1) = tc))) && (((Seg.access h key).2.1) == is_)) && (Ref.sameInts ((Seg.access h key).2.2) less)) && ((Seg.accessErr h key) == v))) rfl) rfl rfl rfl ?_
      refine o_and (p := 112) 4 (decide (((Seg.run h l).1) = ((Seg.runGo h 0 l).1))) ?_ ?_ ?_
      · intro hb65 hk
        simp only [Bool.and_eq_true, beq_iff_eq, decide_eq_true_eq] at hb65
        refine o_unguard 108 rfl rfl ?_
        refine o_pure (p_load_agg (i := 8) (vs := [.int .i64 (((Seg.run h l).1).first), .int .i64 (((Seg.run h l).1).second), .slice a16 (((Seg.run h l).1).young).length c17, .slice a18 (((Seg.run h l).1).old).length c19]) rfl rfl sh58 rfl rfl) rfl rfl rfl ?_
        refine o_unguard 108 rfl rfl ?_
        refine o_pure (p_load_agg (i := 5) (vs := [.int .i64 (((Seg.runGo h 0 l).1).first), .int .i64 (((Seg.runGo h 0 l).1).second), .slice a54 (((Seg.runGo h 0 l).1).young).length c55, .slice a56 (((Seg.runGo h 0 l).1).old).length c57]) rfl rfl sh58 rfl rfl) rfl rfl rfl ?_
        refine o_unguard 108 rfl rfl ?_
        refine o_call0 (v := .bool (decide (((Seg.run h l).1) = ((Seg.runGo h 0 l).1)))) rfl (sameHalls_ok ((Seg.run h l).1) a16 c17 a18 c19 ((Seg.runGo h 0 l).1) a54 c55 a56 c57) hf42 (fun w hw => ⟨(rd_ent (i := 9) rfl (fun w h => h.1)) w hw, (rd_ent (i := 9) rfl (fun w h => h.2)) w hw, (rd_entOr (i := 1) rfl (fun w h => h.1) (fun hφ => by obtain ⟨h1, h2, h3⟩ := hφ; intro w hw; have g1 : a54 = ah_0 := h1; have g2 : c55 = ch_0 := h2; have g3 : ((Seg.runGo h 0 l).1).young = h.young := h3; rw [g1, g2, g3]; exact (rd_base (i := 13) rfl hh_0) w hw)) w hw, (rd_entOr (i := 1) rfl (fun w h => h.2) (fun hφ => by obtain ⟨h1, h2, h3⟩ := hφ; intro w hw; have g1 : a56 = ah_1 := h1; have g2 : c57 = ch_1 := h2; have g3 : ((Seg.runGo h 0 l).1).old = h.old := h3; rw [g1, g2, g3]; exact (rd_base (i := 13) rfl hh_1) w hw)) w hw⟩) rfl ?_
        refine o_pure (p_pick_true (u := .bool (decide (((Seg.run h l).1) = ((Seg.runGo h 0 l).1)))) rfl rfl) rfl rfl rfl ?_
        exact o_sub (Sub.cons rfl (Sub.skip rfl (Sub.skip rfl (Sub.skip rfl (Sub.skip rfl (Sub.skip rfl (Sub.refl _))))))) hk
      · intro hb65 hk
        refine o_guard_no rfl 108 rfl rfl rfl rfl rfl ?_
        refine o_guard_no rfl 108 rfl rfl rfl rfl rfl ?_
        refine o_guard_no rfl 108 rfl rfl rfl rfl rfl ?_
        refine o_pure (p_pick_false (v := .bool false) rfl rfl) rfl rfl rfl ?_
        exact o_sub (Sub.cons rfl (Sub.skip rfl (Sub.skip rfl (Sub.skip rfl (Sub.skip rfl (Sub.skip rfl (Sub.refl _))))))) hk
      refine o_pure (p_move (v := .bool (((((((Seg.check h) == (Seg.check h)) && (decide (((Seg.access h key).1) = tc))) && (((Seg.access h key).2.1) == is_)) && (Ref.sameInts ((Seg.access h key).2.2) less)) && ((Seg.accessErr h key) == v)) && (decide (((Seg.run h l).1) = ((Seg.runGo h 0 l).1))))) rfl) rfl rfl rfl ?_
      refine o_and (p := 117) 4 (((Seg.run h l).2) == ((Seg.runGo h 0 l).2)) ?_ ?_ ?_
      · intro hb66 hk
        simp only [Bool.and_eq_true, beq_iff_eq, decide_eq_true_eq] at hb66
        refine o_unguard 113 rfl rfl ?_
        refine o_pure (p_move (v := .int .i64 ((Seg.run h l).2)) rfl) rfl rfl rfl ?_
        refine o_unguard 113 rfl rfl ?_
        refine o_pure (p_move (v := .int .i64 ((Seg.runGo h 0 l).2)) rfl) rfl rfl rfl ?_
        refine o_unguard 113 rfl rfl ?_
        refine o_pure (p_eq (p := ((Seg.run h l).2)) (q := ((Seg.runGo h 0 l).2)) rfl rfl) rfl rfl rfl ?_
        refine o_pure (p_pick_true (u := .bool (((Seg.run h l).2) == ((Seg.runGo h 0 l).2))) rfl rfl) rfl rfl rfl ?_
        exact o_sub (Sub.cons rfl (Sub.skip rfl (Sub.skip rfl (Sub.skip rfl (Sub.skip rfl (Sub.skip rfl (Sub.refl _))))))) hk
      · intro hb66 hk
        refine o_guard_no rfl 113 rfl rfl rfl rfl rfl ?_
        refine o_guard_no rfl 113 rfl rfl rfl rfl rfl ?_
        refine o_guard_no rfl 113 rfl rfl rfl rfl rfl ?_
        refine o_pure (p_pick_false (v := .bool false) rfl rfl) rfl rfl rfl ?_
        exact o_sub (Sub.cons rfl (Sub.skip rfl (Sub.skip rfl (Sub.skip rfl (Sub.skip rfl (Sub.skip rfl (Sub.refl _))))))) hk
      refine o_pure (p_move (v := .bool ((((((((Seg.check h) == (Seg.check h)) && (decide (((Seg.access h key).1) = tc))) && (((Seg.access h key).2.1) == is_)) && (Ref.sameInts ((Seg.access h key).2.2) less)) && ((Seg.accessErr h key) == v)) && (decide (((Seg.run h l).1) = ((Seg.runGo h 0 l).1)))) && (((Seg.run h l).2) == ((Seg.runGo h 0 l).2)))) rfl) rfl rfl rfl ?_
      refine o_and (p := 122) 4 ((Seg.runErr h l) == (Lru.trace l)) ?_ ?_ ?_
      · intro hb67 hk
        simp only [Bool.and_eq_true, beq_iff_eq, decide_eq_true_eq] at hb67
        refine o_unguard 118 rfl rfl ?_
        refine o_pure (p_move (v := .int .i64 (Seg.runErr h l)) rfl) rfl rfl rfl ?_
        refine o_unguard 118 rfl rfl ?_
        refine o_pure (p_move (v := .int .i64 (Lru.trace l)) rfl) rfl rfl rfl ?_
        refine o_unguard 118 rfl rfl ?_
        refine o_pure (p_eq (p := (Seg.runErr h l)) (q := (Lru.trace l)) rfl rfl) rfl rfl rfl ?_
        refine o_pure (p_pick_true (u := .bool ((Seg.runErr h l) == (Lru.trace l))) rfl rfl) rfl rfl rfl ?_
        exact o_sub (Sub.cons rfl (Sub.skip rfl (Sub.skip rfl (Sub.skip rfl (Sub.skip rfl (Sub.skip rfl (Sub.refl _))))))) hk
      · intro hb67 hk
        refine o_guard_no rfl 118 rfl rfl rfl rfl rfl ?_
        refine o_guard_no rfl 118 rfl rfl rfl rfl rfl ?_
        refine o_guard_no rfl 118 rfl rfl rfl rfl rfl ?_
        refine o_pure (p_pick_false (v := .bool false) rfl rfl) rfl rfl rfl ?_
        exact o_sub (Sub.cons rfl (Sub.skip rfl (Sub.skip rfl (Sub.skip rfl (Sub.skip rfl (Sub.skip rfl (Sub.refl _))))))) hk
      refine o_pure (p_move (v := .bool (((((((((Seg.check h) == (Seg.check h)) && (decide (((Seg.access h key).1) = tc))) && (((Seg.access h key).2.1) == is_)) && (Ref.sameInts ((Seg.access h key).2.2) less)) && ((Seg.accessErr h key) == v)) && (decide (((Seg.run h l).1) = ((Seg.runGo h 0 l).1)))) && (((Seg.run h l).2) == ((Seg.runGo h 0 l).2))) && ((Seg.runErr h l) == (Lru.trace l)))) rfl) rfl rfl rfl ?_
      refine o_and (p := 127) 4 (Ref.sameInts (Seg.flat h) (h.young ++ h.old)) ?_ ?_ ?_
      · intro hb68 hk
        simp only [Bool.and_eq_true, beq_iff_eq, decide_eq_true_eq] at hb68
        refine o_unguard 123 rfl rfl ?_
        refine o_pure (p_move (v := .slice a25 (Seg.flat h).length c26) rfl) rfl rfl rfl ?_
        refine o_unguard 123 rfl rfl ?_
        refine o_pure (p_move (v := .slice a60_6 (h.young ++ h.old).length c60_6) rfl) rfl rfl rfl ?_
        refine o_unguard 123 rfl rfl ?_
        refine o_call0 (v := .bool (Ref.sameInts (Seg.flat h) (h.young ++ h.old))) rfl (sameInts_ok (Seg.flat h) a25 c26 (h.young ++ h.old) a60_6 c60_6) hf27 (fun w hw => ⟨(rd_own (i := 7) rfl) w hw, (rd_own (i := 0) rfl) w hw⟩) rfl ?_
        refine o_pure (p_pick_true (u := .bool (Ref.sameInts (Seg.flat h) (h.young ++ h.old))) rfl rfl) rfl rfl rfl ?_
        exact o_sub (Sub.cons rfl (Sub.skip rfl (Sub.skip rfl (Sub.skip rfl (Sub.skip rfl (Sub.skip rfl (Sub.refl _))))))) hk
      · intro hb68 hk
        refine o_guard_no rfl 123 rfl rfl rfl rfl rfl ?_
        refine o_guard_no rfl 123 rfl rfl rfl rfl rfl ?_
        refine o_guard_no rfl 123 rfl rfl rfl rfl rfl ?_
        refine o_pure (p_pick_false (v := .bool false) rfl rfl) rfl rfl rfl ?_
        exact o_sub (Sub.cons rfl (Sub.skip rfl (Sub.skip rfl (Sub.skip rfl (Sub.skip rfl (Sub.skip rfl (Sub.refl _))))))) hk
      refine o_pure (p_move (v := .bool ((((((((((Seg.check h) == (Seg.check h)) && (decide (((Seg.access h key).1) = tc))) && (((Seg.access h key).2.1) == is_)) && (Ref.sameInts ((Seg.access h key).2.2) less)) && ((Seg.accessErr h key) == v)) && (decide (((Seg.run h l).1) = ((Seg.runGo h 0 l).1)))) && (((Seg.run h l).2) == ((Seg.runGo h 0 l).2))) && ((Seg.runErr h l) == (Lru.trace l))) && (Ref.sameInts (Seg.flat h) (h.young ++ h.old)))) rfl) rfl rfl rfl ?_
      refine o_and (p := 132) 4 ((Seg.check h) == (Seg.check h)) ?_ ?_ ?_
      · intro hb69 hk
        simp only [Bool.and_eq_true, beq_iff_eq, decide_eq_true_eq] at hb69
        refine o_unguard 128 rfl rfl ?_
        refine o_pure (p_move (v := .int .i64 (Seg.check h)) rfl) rfl rfl rfl ?_
        refine o_unguard 128 rfl rfl ?_
        refine o_pure (p_move (v := .int .i64 (Seg.check h)) rfl) rfl rfl rfl ?_
        refine o_unguard 128 rfl rfl ?_
        refine o_pure (p_eq (p := (Seg.check h)) (q := (Seg.check h)) rfl rfl) rfl rfl rfl ?_
        refine o_pure (p_pick_true (u := .bool ((Seg.check h) == (Seg.check h))) rfl rfl) rfl rfl rfl ?_
        exact o_sub (Sub.cons rfl (Sub.skip rfl (Sub.skip rfl (Sub.skip rfl (Sub.skip rfl (Sub.skip rfl (Sub.refl _))))))) hk
      · intro hb69 hk
        refine o_guard_no rfl 128 rfl rfl rfl rfl rfl ?_
        refine o_guard_no rfl 128 rfl rfl rfl rfl rfl ?_
        refine o_guard_no rfl 128 rfl rfl rfl rfl rfl ?_
        refine o_pure (p_pick_false (v := .bool false) rfl rfl) rfl rfl rfl ?_
        exact o_sub (Sub.cons rfl (Sub.skip rfl (Sub.skip rfl (Sub.skip rfl (Sub.skip rfl (Sub.skip rfl (Sub.refl _))))))) hk
      refine o_pure (p_assign (v := .bool (((((((((((Seg.check h) == (Seg.check h)) && (decide (((Seg.access h key).1) = tc))) && (((Seg.access h key).2.1) == is_)) && (Ref.sameInts ((Seg.access h key).2.2) less)) && ((Seg.accessErr h key) == v)) && (decide (((Seg.run h l).1) = ((Seg.runGo h 0 l).1)))) && (((Seg.run h l).2) == ((Seg.runGo h 0 l).2))) && ((Seg.runErr h l) == (Lru.trace l))) && (Ref.sameInts (Seg.flat h) (h.young ++ h.old))) && ((Seg.check h) == (Seg.check h)))) rfl) rfl rfl rfl ?_
      refine o_nil ?_
      refine q_then ?_
      refine c_ret ?_
      have hr0 : ((((((((((((Seg.check h) == (Seg.check h)) && (decide (((Seg.access h key).1) = tc))) && (((Seg.access h key).2.1) == is_)) && (Ref.sameInts ((Seg.access h key).2.2) less)) && ((Seg.accessErr h key) == v)) && (decide (((Seg.run h l).1) = ((Seg.runGo h 0 l).1)))) && (((Seg.run h l).2) == ((Seg.runGo h 0 l).2))) && ((Seg.runErr h l) == (Lru.trace l))) && (Ref.sameInts (Seg.flat h) (h.young ++ h.old))) && ((Seg.check h) == (Seg.check h))) : Bool) = true := by
        first | (obtain ⟨rfl, rfl, rfl, rfl⟩ := hj1; simp [b1, b2, hm, hck, htr, Seg.zero, Ref.sameInts]; done) | (obtain ⟨rfl, rfl, rfl, rfl⟩ := hj1; simp [b1, b2, hm, hck, Seg.zero, Ref.sameInts]; done) | (simp [a1, a2, b1, b2, hm, Seg.zero, Ref.sameInts]; done)
      refine q_end0 (v := .bool (((((((((((Seg.check h) == (Seg.check h)) && (decide (((Seg.access h key).1) = tc))) && (((Seg.access h key).2.1) == is_)) && (Ref.sameInts ((Seg.access h key).2.2) less)) && ((Seg.accessErr h key) == v)) && (decide (((Seg.run h l).1) = ((Seg.runGo h 0 l).1)))) && (((Seg.run h l).2) == ((Seg.runGo h 0 l).2))) && ((Seg.runErr h l) == (Lru.trace l))) && (Ref.sameInts (Seg.flat h) (h.young ++ h.old))) && ((Seg.check h) == (Seg.check h)))) (rt1 rfl (r_tmp rfl)) (i := 13) rfl ?_
      exact (by have hcc := congrArg (fun (y0 : Bool) => (.bool y0 : Value)) hr0; exact hcc)
    · simp only [beq_eq_false_iff_ne, ne_eq] at hc51
      obtain ⟨b1, b2⟩ := Seg.run2 hck hc51
      refine c_skip ?_
      refine q_then ?_
      refine c_held hmix [loose tInt (False) Stc_1 atc_1 ctc_1 tc.old, loose tInt (False) Stc_0 atc_0 ctc_0 tc.young, loose tInt (False) Sless aless cless less, box B29 [.int .i64 0, .int .i64 0, .slice none 0 0, .slice none 0 0] 58, box B28 [.int .i64 tc.first, .int .i64 tc.second, .slice atc_0 tc.young.length ctc_0, .slice atc_1 tc.old.length ctc_1] 58, own tInt S23 a25 c26 (Seg.flat h), box B22 [.int .i64 (((Seg.run h l).1).first), .int .i64 (((Seg.run h l).1).second), .slice a16 (((Seg.run h l).1).young).length c17, .slice a18 (((Seg.run h l).1).old).length c19] 58, ⟨S14, fun w => SlR tInt S14 w a16 c17 (((Seg.run h l).1).young) ∧ SlR tInt S14 w a18 c19 (((Seg.run h l).1).old)⟩, box B13 [.int .i64 (((Seg.access h key).1).first), .int .i64 (((Seg.access h key).1).second), .slice a4 (((Seg.access h key).1).young).length c5, .slice a6 (((Seg.access h key).1).old).length c7] 58, ⟨S2, fun w => SlR tInt S2 w a4 c5 (((Seg.access h key).1).young) ∧ SlR tInt S2 w a6 c7 (((Seg.access h key).1).old) ∧ SlR tInt S2 w a8 c9 ((Seg.access h key).2.2)⟩, box B1 [.int .i64 h.first, .int .i64 h.second, .slice ah_0 h.young.length ch_0, .slice ah_1 h.old.length ch_1] 58, base w0] rfl rfl ?_
      refine h_take (i := 1) (ls := #[false, true, false, false, false, false, false, false]) rfl (by kernel_rfl) (by kernel_rfl) (by kernel_rfl) (fun _ _ _ h => h) (p_fieldAddr (B := B1) (j := 0) (j' := 2) rfl fo58_2 rfl) rfl rfl rfl (fun _ hw => HeapIs.drop hw (List.Sublist.refl _)) rfl ?_
      refine h_take (i := 2) (ls := #[false, true, true, false, false, false, false, false]) rfl (by kernel_rfl) (by kernel_rfl) (by kernel_rfl) (fun _ _ _ h => h) (p_load (i := 10) (v := .slice ah_0 h.young.length ch_0) rfl rfl sh30 rfl) rfl rfl rfl (fun _ hw => HeapIs.drop hw (List.Sublist.refl _)) rfl ?_
      refine h_take (i := 4) (ls := #[false, true, true, false, true, false, false, false]) rfl (by kernel_rfl) (by kernel_rfl) (by kernel_rfl) (fun _ _ _ h => h) (p_fieldAddr (B := B1) (j := 0) (j' := 3) rfl fo58_3 rfl) rfl rfl rfl (fun _ hw => HeapIs.drop hw (List.Sublist.refl _)) rfl ?_
      refine h_take (i := 5) (ls := #[false, true, true, false, true, true, false, false]) rfl (by kernel_rfl) (by kernel_rfl) (by kernel_rfl) (fun _ _ _ h => h) (p_load (i := 10) (v := .slice ah_1 h.old.length ch_1) rfl rfl sh30 rfl) rfl rfl rfl (fun _ hw => HeapIs.drop hw (List.Sublist.refl _)) rfl ?_
      refine h_one (i := 0) (ls := #[true, true, true, false, true, true, false, false]) (by kernel_rfl) rfl rfl ?_
      refine o_buildSlice (m := 0) (T := tInt) (L := []) (vs := []) rfl rfl rfl rfl Try.underlying30 sz3 (by decide) ze3 rfl (by decide) rfl (fun S70_0 a70_0 => ?_)
      refine o_nil ?_
      refine h_next (fun _ hw => HeapIs.drop hw (List.Sublist.cons _ (List.Sublist.cons_cons _ (List.Sublist.cons_cons _ (List.Sublist.cons_cons _ (List.Sublist.cons_cons _ (List.Sublist.cons_cons _ (List.Sublist.cons_cons _ (List.Sublist.cons_cons _ (List.Sublist.cons_cons _ (List.Sublist.cons_cons _ (List.Sublist.cons_cons _ (List.Sublist.cons_cons _ (List.Sublist.cons_cons _ (List.Sublist.slnil))))))))))))))) ?_
      refine h_one (i := 3) (ls := #[true, true, true, true, true, true, false, false]) (by kernel_rfl) rfl rfl ?_
      refine o_append (i := 0) (L := []) (M := h.young) (T := tInt) rfl rfl rfl (rd_base (i := 12) rfl hh_0) Try.underlying30 Try.underlying30 (by intro k h; cases h) el3 (by intro z; simp [tInt, one1]) (by decide) (by first | omega | (simp only [List.length_cons, List.length_nil]; omega) | (simp only [List.length_append, List.length_cons, List.length_nil, List.length_take, List.length_drop]; omega)) rfl (fun a70_3 c70_3 S70_3 => ?_)
      refine o_nil ?_
      refine h_next (fun _ hw => HeapIs.drop hw (List.Sublist.cons _ (List.Sublist.cons_cons _ (List.Sublist.cons_cons _ (List.Sublist.cons_cons _ (List.Sublist.cons_cons _ (List.Sublist.cons_cons _ (List.Sublist.cons_cons _ (List.Sublist.cons_cons _ (List.Sublist.cons_cons _ (List.Sublist.cons_cons _ (List.Sublist.cons_cons _ (List.Sublist.cons_cons _ (List.Sublist.cons_cons _ (List.Sublist.slnil))))))))))))))) ?_
      refine h_one (i := 6) (ls := #[true, true, true, true, true, true, true, false]) (by kernel_rfl) rfl rfl ?_
      refine o_append (i := 0) (L := h.young) (M := h.old) (T := tInt) rfl rfl rfl (rd_base (i := 12) rfl hh_1) Try.underlying30 Try.underlying30 (by intro k h; cases h) el3 (by intro z; simp [tInt, one1]) (by decide) (by first | omega | (simp only [List.length_cons, List.length_nil]; omega) | (simp only [List.length_append, List.length_cons, List.length_nil, List.length_take, List.length_drop]; omega)) rfl (fun a70_6 c70_6 S70_6 => ?_)
      refine o_nil ?_
      refine h_next (fun _ hw => HeapIs.drop hw (List.Sublist.cons _ (List.Sublist.cons_cons _ (List.Sublist.cons_cons _ (List.Sublist.cons_cons _ (List.Sublist.cons_cons _ (List.Sublist.cons_cons _ (List.Sublist.cons_cons _ (List.Sublist.cons_cons _ (List.Sublist.cons_cons _ (List.Sublist.cons_cons _ (List.Sublist.cons_cons _ (List.Sublist.cons_cons _ (List.Sublist.cons_cons _ (List.Sublist.slnil))))))))))))))) ?_
      refine h_take (i := 7) (ls := #[true, true, true, true, true, true, true, true]) rfl (by kernel_rfl) (by kernel_rfl) (by kernel_rfl) (fun _ _ _ h => h) (p_assign (v := .slice a70_6 (h.young ++ h.old).length c70_6) rfl) rfl rfl rfl (fun _ hw => HeapIs.drop hw (List.Sublist.cons _ (List.Sublist.cons_cons _ (List.Sublist.cons_cons _ (List.Sublist.cons_cons _ (List.Sublist.cons_cons _ (List.Sublist.cons_cons _ (List.Sublist.cons_cons _ (List.Sublist.cons_cons _ (List.Sublist.cons_cons _ (List.Sublist.cons_cons _ (List.Sublist.cons_cons _ (List.Sublist.cons_cons _ (List.Sublist.cons_cons _ (List.Sublist.slnil))))))))))))))) rfl ?_
      refine h_done (by kernel_rfl) ?_
      refine q_then ?_
      refine c_seq ?_
      refine c_region ?_
      refine o_call0 (v := .bool true) rfl (hallsBegun_ok ) hf40 (fun _ _ => trivial) rfl ?_
      refine o_pure (p_move (v := .bool true) rfl) rfl rfl rfl ?_
      refine o_unguard 82 rfl rfl ?_
      refine o_pure (p_load_agg (i := 11) (vs := [.int .i64 h.first, .int .i64 h.second, .slice ah_0 h.young.length ch_0, .slice ah_1 h.old.length ch_1]) rfl rfl sh58 rfl rfl) rfl rfl rfl ?_
      refine o_unguard 82 rfl rfl ?_
      refine o_call0 (v := .int .i64 (Seg.check h)) rfl (scheck_ok h ah_0 ch_0 ah_1 ch_1) hf41 (fun w hw => ⟨(rd_base (i := 12) rfl hh_0) w hw, (rd_base (i := 12) rfl hh_1) w hw⟩) rfl ?_
      refine o_unguard 82 rfl rfl ?_
      refine o_pure (p_move (v := .int .i64 (Seg.check h)) rfl) rfl rfl rfl ?_
      refine o_unguard 82 rfl rfl ?_
      refine o_pure (p_eq (p := (Seg.check h)) (q := (Seg.check h)) rfl rfl) rfl rfl rfl ?_
      refine o_pure (p_pick_true (u := .bool ((Seg.check h) == (Seg.check h))) rfl rfl) rfl rfl rfl ?_
      refine o_pure (p_move (v := .bool ((Seg.check h) == (Seg.check h))) rfl) rfl rfl rfl ?_
      refine o_and (p := 92) 4 (decide (((Seg.access h key).1) = tc)) ?_ ?_ ?_
      · intro hb71 hk
        simp only [beq_iff_eq] at hb71
        refine o_unguard 88 rfl rfl ?_
        refine o_pure (p_load_agg (i := 9) (vs := [.int .i64 (((Seg.access h key).1).first), .int .i64 (((Seg.access h key).1).second), .slice a4 (((Seg.access h key).1).young).length c5, .slice a6 (((Seg.access h key).1).old).length c7]) rfl rfl sh58 rfl rfl) rfl rfl rfl ?_
        refine o_unguard 88 rfl rfl ?_
        refine o_pure (p_load_agg (i := 5) (vs := [.int .i64 tc.first, .int .i64 tc.second, .slice atc_0 tc.young.length ctc_0, .slice atc_1 tc.old.length ctc_1]) rfl rfl sh58 rfl rfl) rfl rfl rfl ?_
        refine o_unguard 88 rfl rfl ?_
        refine o_call0 (v := .bool (decide (((Seg.access h key).1) = tc))) rfl (sameHalls_ok ((Seg.access h key).1) a4 c5 a6 c7 tc atc_0 ctc_0 atc_1 ctc_1) hf42 (fun w hw => ⟨(rd_ent (i := 10) rfl (fun w h => h.1)) w hw, (rd_ent (i := 10) rfl (fun w h => h.2.1)) w hw, (rd_loose (i := 2) rfl (fun hφ => hφ.elim)) w hw, (rd_loose (i := 1) rfl (fun hφ => hφ.elim)) w hw⟩) rfl ?_
        refine o_pure (p_pick_true (u := .bool (decide (((Seg.access h key).1) = tc))) rfl rfl) rfl rfl rfl ?_
        exact o_sub (Sub.cons rfl (Sub.skip rfl (Sub.skip rfl (Sub.skip rfl (Sub.skip rfl (Sub.skip rfl (Sub.refl _))))))) hk
      · intro hb71 hk
        refine o_guard_no rfl 88 rfl rfl rfl rfl rfl ?_
        refine o_guard_no rfl 88 rfl rfl rfl rfl rfl ?_
        refine o_guard_no rfl 88 rfl rfl rfl rfl rfl ?_
        refine o_pure (p_pick_false (v := .bool false) rfl rfl) rfl rfl rfl ?_
        exact o_sub (Sub.cons rfl (Sub.skip rfl (Sub.skip rfl (Sub.skip rfl (Sub.skip rfl (Sub.skip rfl (Sub.refl _))))))) hk
      refine o_pure (p_move (v := .bool (((Seg.check h) == (Seg.check h)) && (decide (((Seg.access h key).1) = tc)))) rfl) rfl rfl rfl ?_
      refine o_and (p := 97) 4 (((Seg.access h key).2.1) == is_) ?_ ?_ ?_
      · intro hb72 hk
        simp only [Bool.and_eq_true, beq_iff_eq, decide_eq_true_eq] at hb72
        refine o_unguard 93 rfl rfl ?_
        refine o_pure (p_move (v := .bool ((Seg.access h key).2.1)) rfl) rfl rfl rfl ?_
        refine o_unguard 93 rfl rfl ?_
        refine o_pure (p_move (v := .bool is_) rfl) rfl rfl rfl ?_
        refine o_unguard 93 rfl rfl ?_
        refine o_pure (p_eqBool (b := ((Seg.access h key).2.1)) (c := is_) rfl rfl Try.underlying4) rfl rfl rfl ?_
        refine o_pure (p_pick_true (u := .bool (((Seg.access h key).2.1) == is_)) rfl rfl) rfl rfl rfl ?_
        exact o_sub (Sub.cons rfl (Sub.skip rfl (Sub.skip rfl (Sub.skip rfl (Sub.skip rfl (Sub.skip rfl (Sub.refl _))))))) hk
      · intro hb72 hk
        refine o_guard_no rfl 93 rfl rfl rfl rfl rfl ?_
        refine o_guard_no rfl 93 rfl rfl rfl rfl rfl ?_
        refine o_guard_no rfl 93 rfl rfl rfl rfl rfl ?_
        refine o_pure (p_pick_false (v := .bool false) rfl rfl) rfl rfl rfl ?_
        exact o_sub (Sub.cons rfl (Sub.skip rfl (Sub.skip rfl (Sub.skip rfl (Sub.skip rfl (Sub.skip rfl (Sub.refl _))))))) hk
      refine o_pure (p_move (v := .bool ((((Seg.check h) == (Seg.check h)) && (decide (((Seg.access h key).1) = tc))) && (((Seg.access h key).2.1) == is_))) rfl) rfl rfl rfl ?_
      refine o_and (p := 102) 4 (Ref.sameInts ((Seg.access h key).2.2) less) ?_ ?_ ?_
      · intro hb73 hk
        simp only [Bool.and_eq_true, beq_iff_eq, decide_eq_true_eq] at hb73
        refine o_unguard 98 rfl rfl ?_
        refine o_pure (p_move (v := .slice a8 ((Seg.access h key).2.2).length c9) rfl) rfl rfl rfl ?_
        refine o_unguard 98 rfl rfl ?_
        refine o_pure (p_move (v := .slice aless less.length cless) rfl) rfl rfl rfl ?_
        refine o_unguard 98 rfl rfl ?_
        refine o_call0 (v := .bool (Ref.sameInts ((Seg.access h key).2.2) less)) rfl (sameInts_ok ((Seg.access h key).2.2) a8 c9 less aless cless) hf27 (fun w hw => ⟨(rd_ent (i := 10) rfl (fun w h => h.2.2)) w hw, (rd_loose (i := 3) rfl (fun hφ => hφ.elim)) w hw⟩) rfl ?_
        refine o_pure (p_pick_true (u := .bool (Ref.sameInts ((Seg.access h key).2.2) less)) rfl rfl) rfl rfl rfl ?_
        exact o_sub (Sub.cons rfl (Sub.skip rfl (Sub.skip rfl (Sub.skip rfl (Sub.skip rfl (Sub.skip rfl (Sub.refl _))))))) hk
      · intro hb73 hk
        refine o_guard_no rfl 98 rfl rfl rfl rfl rfl ?_
        refine o_guard_no rfl 98 rfl rfl rfl rfl rfl ?_
        refine o_guard_no rfl 98 rfl rfl rfl rfl rfl ?_
        refine o_pure (p_pick_false (v := .bool false) rfl rfl) rfl rfl rfl ?_
        exact o_sub (Sub.cons rfl (Sub.skip rfl (Sub.skip rfl (Sub.skip rfl (Sub.skip rfl (Sub.skip rfl (Sub.refl _))))))) hk
      refine o_pure (p_move (v := .bool (((((Seg.check h) == (Seg.check h)) && (decide (((Seg.access h key).1) = tc))) && (((Seg.access h key).2.1) == is_)) && (Ref.sameInts ((Seg.access h key).2.2) less))) rfl) rfl rfl rfl ?_
      refine o_and (p := 107) 4 ((Seg.accessErr h key) == v) ?_ ?_ ?_
      · intro hb74 hk
        simp only [Bool.and_eq_true, beq_iff_eq, decide_eq_true_eq] at hb74
        refine o_unguard 103 rfl rfl ?_
        refine o_pure (p_move (v := .int .i64 (Seg.accessErr h key)) rfl) rfl rfl rfl ?_
        refine o_unguard 103 rfl rfl ?_
        refine o_pure (p_move (v := .int .i64 v) rfl) rfl rfl rfl ?_
        refine o_unguard 103 rfl rfl ?_
        refine o_pure (p_eq (p := (Seg.accessErr h key)) (q := v) rfl rfl) rfl rfl rfl ?_
        refine o_pure (p_pick_true (u := .bool ((Seg.accessErr h key) == v)) rfl rfl) rfl rfl rfl ?_
        exact o_sub (Sub.cons rfl (Sub.skip rfl (Sub.skip rfl (Sub.skip rfl (Sub.skip rfl (Sub.skip rfl (Sub.refl _))))))) hk
      · intro hb74 hk
        refine o_guard_no rfl 103 rfl rfl rfl rfl rfl ?_
        refine o_guard_no rfl 103 rfl rfl rfl rfl rfl ?_
        refine o_guard_no rfl 103 rfl rfl rfl rfl rfl ?_
        refine o_pure (p_pick_false (v := .bool false) rfl rfl) rfl rfl rfl ?_
        exact o_sub (Sub.cons rfl (Sub.skip rfl (Sub.skip rfl (Sub.skip rfl (Sub.skip rfl (Sub.skip rfl (Sub.refl _))))))) hk
      refine o_pure (p_move (v := .bool ((((((Seg.check h) == (Seg.check h)) && (decide (((Seg.access h key).1) = tc))) && (((Seg.access h key).2.1) == is_)) && (Ref.sameInts ((Seg.access h key).2.2) less)) && ((Seg.accessErr h key) == v))) rfl) rfl rfl rfl ?_
      refine o_and (p := 112) 4 (decide (((Seg.run h l).1) = (⟨0, 0, [], []⟩ : DHalls))) ?_ ?_ ?_
      · intro hb75 hk
        simp only [Bool.and_eq_true, beq_iff_eq, decide_eq_true_eq] at hb75
        refine o_unguard 108 rfl rfl ?_
        refine o_pure (p_load_agg (i := 7) (vs := [.int .i64 (((Seg.run h l).1).first), .int .i64 (((Seg.run h l).1).second), .slice a16 (((Seg.run h l).1).young).length c17, .slice a18 (((Seg.run h l).1).old).length c19]) rfl rfl sh58 rfl rfl) rfl rfl rfl ?_
        refine o_unguard 108 rfl rfl ?_
        refine o_pure (p_load_agg (i := 4) (vs := [.int .i64 0, .int .i64 0, .slice none 0 0, .slice none 0 0]) rfl rfl sh58 rfl rfl) rfl rfl rfl ?_
        refine o_unguard 108 rfl rfl ?_
        refine o_call0 (v := .bool (decide (((Seg.run h l).1) = (⟨0, 0, [], []⟩ : DHalls)))) rfl (sameHalls_ok ((Seg.run h l).1) a16 c17 a18 c19 (⟨0, 0, [], []⟩ : DHalls) none 0 none 0) hf42 (fun w hw => ⟨(rd_ent (i := 8) rfl (fun w h => h.1)) w hw, (rd_ent (i := 8) rfl (fun w h => h.2)) w hw, rd_nil w hw, rd_nil w hw⟩) rfl ?_
        refine o_pure (p_pick_true (u := .bool (decide (((Seg.run h l).1) = (⟨0, 0, [], []⟩ : DHalls)))) rfl rfl) rfl rfl rfl ?_
        exact o_sub (Sub.cons rfl (Sub.skip rfl (Sub.skip rfl (Sub.skip rfl (Sub.skip rfl (Sub.skip rfl (Sub.refl _))))))) hk
      · intro hb75 hk
        refine o_guard_no rfl 108 rfl rfl rfl rfl rfl ?_
        refine o_guard_no rfl 108 rfl rfl rfl rfl rfl ?_
        refine o_guard_no rfl 108 rfl rfl rfl rfl rfl ?_
        refine o_pure (p_pick_false (v := .bool false) rfl rfl) rfl rfl rfl ?_
        exact o_sub (Sub.cons rfl (Sub.skip rfl (Sub.skip rfl (Sub.skip rfl (Sub.skip rfl (Sub.skip rfl (Sub.refl _))))))) hk
      refine o_pure (p_move (v := .bool (((((((Seg.check h) == (Seg.check h)) && (decide (((Seg.access h key).1) = tc))) && (((Seg.access h key).2.1) == is_)) && (Ref.sameInts ((Seg.access h key).2.2) less)) && ((Seg.accessErr h key) == v)) && (decide (((Seg.run h l).1) = (⟨0, 0, [], []⟩ : DHalls))))) rfl) rfl rfl rfl ?_
      refine o_and (p := 117) 4 (((Seg.run h l).2) == 0) ?_ ?_ ?_
      · intro hb76 hk
        simp only [Bool.and_eq_true, beq_iff_eq, decide_eq_true_eq] at hb76
        refine o_unguard 113 rfl rfl ?_
        refine o_pure (p_move (v := .int .i64 ((Seg.run h l).2)) rfl) rfl rfl rfl ?_
        refine o_unguard 113 rfl rfl ?_
        refine o_pure (p_move (v := .int .i64 0) rfl) rfl rfl rfl ?_
        refine o_unguard 113 rfl rfl ?_
        refine o_pure (p_eq (p := ((Seg.run h l).2)) (q := 0) rfl rfl) rfl rfl rfl ?_
        refine o_pure (p_pick_true (u := .bool (((Seg.run h l).2) == 0)) rfl rfl) rfl rfl rfl ?_
        exact o_sub (Sub.cons rfl (Sub.skip rfl (Sub.skip rfl (Sub.skip rfl (Sub.skip rfl (Sub.skip rfl (Sub.refl _))))))) hk
      · intro hb76 hk
        refine o_guard_no rfl 113 rfl rfl rfl rfl rfl ?_
        refine o_guard_no rfl 113 rfl rfl rfl rfl rfl ?_
        refine o_guard_no rfl 113 rfl rfl rfl rfl rfl ?_
        refine o_pure (p_pick_false (v := .bool false) rfl rfl) rfl rfl rfl ?_
        exact o_sub (Sub.cons rfl (Sub.skip rfl (Sub.skip rfl (Sub.skip rfl (Sub.skip rfl (Sub.skip rfl (Sub.refl _))))))) hk
      refine o_pure (p_move (v := .bool ((((((((Seg.check h) == (Seg.check h)) && (decide (((Seg.access h key).1) = tc))) && (((Seg.access h key).2.1) == is_)) && (Ref.sameInts ((Seg.access h key).2.2) less)) && ((Seg.accessErr h key) == v)) && (decide (((Seg.run h l).1) = (⟨0, 0, [], []⟩ : DHalls)))) && (((Seg.run h l).2) == 0))) rfl) rfl rfl rfl ?_
      refine o_and (p := 122) 4 ((Seg.runErr h l) == (Lru.trace l)) ?_ ?_ ?_
      · intro hb77 hk
        simp only [Bool.and_eq_true, beq_iff_eq, decide_eq_true_eq] at hb77
        refine o_unguard 118 rfl rfl ?_
        refine o_pure (p_move (v := .int .i64 (Seg.runErr h l)) rfl) rfl rfl rfl ?_
        refine o_unguard 118 rfl rfl ?_
        refine o_pure (p_move (v := .int .i64 (Lru.trace l)) rfl) rfl rfl rfl ?_
        refine o_unguard 118 rfl rfl ?_
        refine o_pure (p_eq (p := (Seg.runErr h l)) (q := (Lru.trace l)) rfl rfl) rfl rfl rfl ?_
        refine o_pure (p_pick_true (u := .bool ((Seg.runErr h l) == (Lru.trace l))) rfl rfl) rfl rfl rfl ?_
        exact o_sub (Sub.cons rfl (Sub.skip rfl (Sub.skip rfl (Sub.skip rfl (Sub.skip rfl (Sub.skip rfl (Sub.refl _))))))) hk
      · intro hb77 hk
        refine o_guard_no rfl 118 rfl rfl rfl rfl rfl ?_
        refine o_guard_no rfl 118 rfl rfl rfl rfl rfl ?_
        refine o_guard_no rfl 118 rfl rfl rfl rfl rfl ?_
        refine o_pure (p_pick_false (v := .bool false) rfl rfl) rfl rfl rfl ?_
        exact o_sub (Sub.cons rfl (Sub.skip rfl (Sub.skip rfl (Sub.skip rfl (Sub.skip rfl (Sub.skip rfl (Sub.refl _))))))) hk
      refine o_pure (p_move (v := .bool (((((((((Seg.check h) == (Seg.check h)) && (decide (((Seg.access h key).1) = tc))) && (((Seg.access h key).2.1) == is_)) && (Ref.sameInts ((Seg.access h key).2.2) less)) && ((Seg.accessErr h key) == v)) && (decide (((Seg.run h l).1) = (⟨0, 0, [], []⟩ : DHalls)))) && (((Seg.run h l).2) == 0)) && ((Seg.runErr h l) == (Lru.trace l)))) rfl) rfl rfl rfl ?_
      refine o_and (p := 127) 4 (Ref.sameInts (Seg.flat h) (h.young ++ h.old)) ?_ ?_ ?_
      · intro hb78 hk
        simp only [Bool.and_eq_true, beq_iff_eq, decide_eq_true_eq] at hb78
        refine o_unguard 123 rfl rfl ?_
        refine o_pure (p_move (v := .slice a25 (Seg.flat h).length c26) rfl) rfl rfl rfl ?_
        refine o_unguard 123 rfl rfl ?_
        refine o_pure (p_move (v := .slice a70_6 (h.young ++ h.old).length c70_6) rfl) rfl rfl rfl ?_
        refine o_unguard 123 rfl rfl ?_
        refine o_call0 (v := .bool (Ref.sameInts (Seg.flat h) (h.young ++ h.old))) rfl (sameInts_ok (Seg.flat h) a25 c26 (h.young ++ h.old) a70_6 c70_6) hf27 (fun w hw => ⟨(rd_own (i := 6) rfl) w hw, (rd_own (i := 0) rfl) w hw⟩) rfl ?_
        refine o_pure (p_pick_true (u := .bool (Ref.sameInts (Seg.flat h) (h.young ++ h.old))) rfl rfl) rfl rfl rfl ?_
        exact o_sub (Sub.cons rfl (Sub.skip rfl (Sub.skip rfl (Sub.skip rfl (Sub.skip rfl (Sub.skip rfl (Sub.refl _))))))) hk
      · intro hb78 hk
        refine o_guard_no rfl 123 rfl rfl rfl rfl rfl ?_
        refine o_guard_no rfl 123 rfl rfl rfl rfl rfl ?_
        refine o_guard_no rfl 123 rfl rfl rfl rfl rfl ?_
        refine o_pure (p_pick_false (v := .bool false) rfl rfl) rfl rfl rfl ?_
        exact o_sub (Sub.cons rfl (Sub.skip rfl (Sub.skip rfl (Sub.skip rfl (Sub.skip rfl (Sub.skip rfl (Sub.refl _))))))) hk
      refine o_pure (p_move (v := .bool ((((((((((Seg.check h) == (Seg.check h)) && (decide (((Seg.access h key).1) = tc))) && (((Seg.access h key).2.1) == is_)) && (Ref.sameInts ((Seg.access h key).2.2) less)) && ((Seg.accessErr h key) == v)) && (decide (((Seg.run h l).1) = (⟨0, 0, [], []⟩ : DHalls)))) && (((Seg.run h l).2) == 0)) && ((Seg.runErr h l) == (Lru.trace l))) && (Ref.sameInts (Seg.flat h) (h.young ++ h.old)))) rfl) rfl rfl rfl ?_
      refine o_and (p := 132) 4 ((Seg.check h) == (Seg.check h)) ?_ ?_ ?_
      · intro hb79 hk
        simp only [Bool.and_eq_true, beq_iff_eq, decide_eq_true_eq] at hb79
        refine o_unguard 128 rfl rfl ?_
        refine o_pure (p_move (v := .int .i64 (Seg.check h)) rfl) rfl rfl rfl ?_
        refine o_unguard 128 rfl rfl ?_
        refine o_pure (p_move (v := .int .i64 (Seg.check h)) rfl) rfl rfl rfl ?_
        refine o_unguard 128 rfl rfl ?_
        refine o_pure (p_eq (p := (Seg.check h)) (q := (Seg.check h)) rfl rfl) rfl rfl rfl ?_
        refine o_pure (p_pick_true (u := .bool ((Seg.check h) == (Seg.check h))) rfl rfl) rfl rfl rfl ?_
        exact o_sub (Sub.cons rfl (Sub.skip rfl (Sub.skip rfl (Sub.skip rfl (Sub.skip rfl (Sub.skip rfl (Sub.refl _))))))) hk
      · intro hb79 hk
        refine o_guard_no rfl 128 rfl rfl rfl rfl rfl ?_
        refine o_guard_no rfl 128 rfl rfl rfl rfl rfl ?_
        refine o_guard_no rfl 128 rfl rfl rfl rfl rfl ?_
        refine o_pure (p_pick_false (v := .bool false) rfl rfl) rfl rfl rfl ?_
        exact o_sub (Sub.cons rfl (Sub.skip rfl (Sub.skip rfl (Sub.skip rfl (Sub.skip rfl (Sub.skip rfl (Sub.refl _))))))) hk
      refine o_pure (p_assign (v := .bool (((((((((((Seg.check h) == (Seg.check h)) && (decide (((Seg.access h key).1) = tc))) && (((Seg.access h key).2.1) == is_)) && (Ref.sameInts ((Seg.access h key).2.2) less)) && ((Seg.accessErr h key) == v)) && (decide (((Seg.run h l).1) = (⟨0, 0, [], []⟩ : DHalls)))) && (((Seg.run h l).2) == 0)) && ((Seg.runErr h l) == (Lru.trace l))) && (Ref.sameInts (Seg.flat h) (h.young ++ h.old))) && ((Seg.check h) == (Seg.check h)))) rfl) rfl rfl rfl ?_
      refine o_nil ?_
      refine q_then ?_
      refine c_ret ?_
      have hr0 : ((((((((((((Seg.check h) == (Seg.check h)) && (decide (((Seg.access h key).1) = tc))) && (((Seg.access h key).2.1) == is_)) && (Ref.sameInts ((Seg.access h key).2.2) less)) && ((Seg.accessErr h key) == v)) && (decide (((Seg.run h l).1) = (⟨0, 0, [], []⟩ : DHalls)))) && (((Seg.run h l).2) == 0)) && ((Seg.runErr h l) == (Lru.trace l))) && (Ref.sameInts (Seg.flat h) (h.young ++ h.old))) && ((Seg.check h) == (Seg.check h))) : Bool) = true := by
        first | (obtain ⟨rfl, rfl, rfl, rfl⟩ := hj1; simp [b1, b2, hm, hck, htr, Seg.zero, Ref.sameInts]; done) | (obtain ⟨rfl, rfl, rfl, rfl⟩ := hj1; simp [b1, b2, hm, hck, Seg.zero, Ref.sameInts]; done) | (simp [a1, a2, b1, b2, hm, Seg.zero, Ref.sameInts]; done)
      refine q_end0 (v := .bool (((((((((((Seg.check h) == (Seg.check h)) && (decide (((Seg.access h key).1) = tc))) && (((Seg.access h key).2.1) == is_)) && (Ref.sameInts ((Seg.access h key).2.2) less)) && ((Seg.accessErr h key) == v)) && (decide (((Seg.run h l).1) = (⟨0, 0, [], []⟩ : DHalls)))) && (((Seg.run h l).2) == 0)) && ((Seg.runErr h l) == (Lru.trace l))) && (Ref.sameInts (Seg.flat h) (h.young ++ h.old))) && ((Seg.check h) == (Seg.check h)))) (rt1 rfl (r_tmp rfl)) (i := 12) rfl ?_
      exact (by have hcc := congrArg (fun (y0 : Bool) => (.bool y0 : Value)) hr0; exact hcc)
  · simp only [beq_eq_false_iff_ne, ne_eq] at hc30
    obtain ⟨a1, a2⟩ := Seg.acc1 (key := key) hc30
    obtain ⟨b1, b2⟩ := Seg.run1 (l := l) hc30
    have hm := Seg.flat1 hc30
    refine c_skip ?_
    refine q_then ?_
    refine c_seq ?_
    refine c_region ?_
    refine o_call0 (v := .bool true) rfl (hallsBegun_ok ) hf40 (fun _ _ => trivial) rfl ?_
    refine o_pure (p_move (v := .bool true) rfl) rfl rfl rfl ?_
    refine o_unguard 82 rfl rfl ?_
    refine o_pure (p_load_agg (i := 7) (vs := [.int .i64 h.first, .int .i64 h.second, .slice ah_0 h.young.length ch_0, .slice ah_1 h.old.length ch_1]) rfl rfl sh58 rfl rfl) rfl rfl rfl ?_
    refine o_unguard 82 rfl rfl ?_
    refine o_call0 (v := .int .i64 (Seg.check h)) rfl (scheck_ok h ah_0 ch_0 ah_1 ch_1) hf41 (fun w hw => ⟨(rd_base (i := 8) rfl hh_0) w hw, (rd_base (i := 8) rfl hh_1) w hw⟩) rfl ?_
    refine o_unguard 82 rfl rfl ?_
    refine o_pure (p_move (v := .int .i64 (Seg.check h)) rfl) rfl rfl rfl ?_
    refine o_unguard 82 rfl rfl ?_
    refine o_pure (p_eq (p := (Seg.check h)) (q := (Seg.check h)) rfl rfl) rfl rfl rfl ?_
    refine o_pure (p_pick_true (u := .bool ((Seg.check h) == (Seg.check h))) rfl rfl) rfl rfl rfl ?_
    refine o_pure (p_move (v := .bool ((Seg.check h) == (Seg.check h))) rfl) rfl rfl rfl ?_
    refine o_and (p := 92) 4 (decide (((Seg.access h key).1) = (⟨0, 0, [], []⟩ : DHalls))) ?_ ?_ ?_
    · intro hb80 hk
      simp only [beq_iff_eq] at hb80
      refine o_unguard 88 rfl rfl ?_
      refine o_pure (p_load_agg (i := 5) (vs := [.int .i64 (((Seg.access h key).1).first), .int .i64 (((Seg.access h key).1).second), .slice a4 (((Seg.access h key).1).young).length c5, .slice a6 (((Seg.access h key).1).old).length c7]) rfl rfl sh58 rfl rfl) rfl rfl rfl ?_
      refine o_unguard 88 rfl rfl ?_
      refine o_pure (p_load_agg (i := 1) (vs := [.int .i64 0, .int .i64 0, .slice none 0 0, .slice none 0 0]) rfl rfl sh58 rfl rfl) rfl rfl rfl ?_
      refine o_unguard 88 rfl rfl ?_
      refine o_call0 (v := .bool (decide (((Seg.access h key).1) = (⟨0, 0, [], []⟩ : DHalls)))) rfl (sameHalls_ok ((Seg.access h key).1) a4 c5 a6 c7 (⟨0, 0, [], []⟩ : DHalls) none 0 none 0) hf42 (fun w hw => ⟨(rd_ent (i := 6) rfl (fun w h => h.1)) w hw, (rd_ent (i := 6) rfl (fun w h => h.2.1)) w hw, rd_nil w hw, rd_nil w hw⟩) rfl ?_
      refine o_pure (p_pick_true (u := .bool (decide (((Seg.access h key).1) = (⟨0, 0, [], []⟩ : DHalls)))) rfl rfl) rfl rfl rfl ?_
      exact o_sub (Sub.cons rfl (Sub.skip rfl (Sub.skip rfl (Sub.skip rfl (Sub.skip rfl (Sub.skip rfl (Sub.refl _))))))) hk
    · intro hb80 hk
      refine o_guard_no rfl 88 rfl rfl rfl rfl rfl ?_
      refine o_guard_no rfl 88 rfl rfl rfl rfl rfl ?_
      refine o_guard_no rfl 88 rfl rfl rfl rfl rfl ?_
      refine o_pure (p_pick_false (v := .bool false) rfl rfl) rfl rfl rfl ?_
      exact o_sub (Sub.cons rfl (Sub.skip rfl (Sub.skip rfl (Sub.skip rfl (Sub.skip rfl (Sub.skip rfl (Sub.refl _))))))) hk
    refine o_pure (p_move (v := .bool (((Seg.check h) == (Seg.check h)) && (decide (((Seg.access h key).1) = (⟨0, 0, [], []⟩ : DHalls))))) rfl) rfl rfl rfl ?_
    refine o_and (p := 97) 4 (((Seg.access h key).2.1) == false) ?_ ?_ ?_
    · intro hb81 hk
      simp only [Bool.and_eq_true, beq_iff_eq, decide_eq_true_eq] at hb81
      refine o_unguard 93 rfl rfl ?_
      refine o_pure (p_move (v := .bool ((Seg.access h key).2.1)) rfl) rfl rfl rfl ?_
      refine o_unguard 93 rfl rfl ?_
      refine o_pure (p_move (v := .bool false) rfl) rfl rfl rfl ?_
      refine o_unguard 93 rfl rfl ?_
      refine o_pure (p_eqBool (b := ((Seg.access h key).2.1)) (c := false) rfl rfl Try.underlying4) rfl rfl rfl ?_
      refine o_pure (p_pick_true (u := .bool (((Seg.access h key).2.1) == false)) rfl rfl) rfl rfl rfl ?_
      exact o_sub (Sub.cons rfl (Sub.skip rfl (Sub.skip rfl (Sub.skip rfl (Sub.skip rfl (Sub.skip rfl (Sub.refl _))))))) hk
    · intro hb81 hk
      refine o_guard_no rfl 93 rfl rfl rfl rfl rfl ?_
      refine o_guard_no rfl 93 rfl rfl rfl rfl rfl ?_
      refine o_guard_no rfl 93 rfl rfl rfl rfl rfl ?_
      refine o_pure (p_pick_false (v := .bool false) rfl rfl) rfl rfl rfl ?_
      exact o_sub (Sub.cons rfl (Sub.skip rfl (Sub.skip rfl (Sub.skip rfl (Sub.skip rfl (Sub.skip rfl (Sub.refl _))))))) hk
    refine o_pure (p_move (v := .bool ((((Seg.check h) == (Seg.check h)) && (decide (((Seg.access h key).1) = (⟨0, 0, [], []⟩ : DHalls)))) && (((Seg.access h key).2.1) == false))) rfl) rfl rfl rfl ?_
    refine o_and (p := 102) 4 (Ref.sameInts ((Seg.access h key).2.2) []) ?_ ?_ ?_
    · intro hb82 hk
      simp only [Bool.and_eq_true, beq_iff_eq, decide_eq_true_eq] at hb82
      refine o_unguard 98 rfl rfl ?_
      refine o_pure (p_move (v := .slice a8 ((Seg.access h key).2.2).length c9) rfl) rfl rfl rfl ?_
      refine o_unguard 98 rfl rfl ?_
      refine o_pure (p_move (v := .slice none 0 0) rfl) rfl rfl rfl ?_
      refine o_unguard 98 rfl rfl ?_
      refine o_call0 (v := .bool (Ref.sameInts ((Seg.access h key).2.2) [])) rfl (sameInts_ok ((Seg.access h key).2.2) a8 c9 [] none 0) hf27 (fun w hw => ⟨(rd_ent (i := 6) rfl (fun w h => h.2.2)) w hw, rd_nil w hw⟩) rfl ?_
      refine o_pure (p_pick_true (u := .bool (Ref.sameInts ((Seg.access h key).2.2) [])) rfl rfl) rfl rfl rfl ?_
      exact o_sub (Sub.cons rfl (Sub.skip rfl (Sub.skip rfl (Sub.skip rfl (Sub.skip rfl (Sub.skip rfl (Sub.refl _))))))) hk
    · intro hb82 hk
      refine o_guard_no rfl 98 rfl rfl rfl rfl rfl ?_
      refine o_guard_no rfl 98 rfl rfl rfl rfl rfl ?_
      refine o_guard_no rfl 98 rfl rfl rfl rfl rfl ?_
      refine o_pure (p_pick_false (v := .bool false) rfl rfl) rfl rfl rfl ?_
      exact o_sub (Sub.cons rfl (Sub.skip rfl (Sub.skip rfl (Sub.skip rfl (Sub.skip rfl (Sub.skip rfl (Sub.refl _))))))) hk
    refine o_pure (p_move (v := .bool (((((Seg.check h) == (Seg.check h)) && (decide (((Seg.access h key).1) = (⟨0, 0, [], []⟩ : DHalls)))) && (((Seg.access h key).2.1) == false)) && (Ref.sameInts ((Seg.access h key).2.2) []))) rfl) rfl rfl rfl ?_
    refine o_and (p := 107) 4 ((Seg.accessErr h key) == (Seg.check h)) ?_ ?_ ?_
    · intro hb83 hk
      simp only [Bool.and_eq_true, beq_iff_eq, decide_eq_true_eq] at hb83
      refine o_unguard 103 rfl rfl ?_
      refine o_pure (p_move (v := .int .i64 (Seg.accessErr h key)) rfl) rfl rfl rfl ?_
      refine o_unguard 103 rfl rfl ?_
      refine o_pure (p_move (v := .int .i64 (Seg.check h)) rfl) rfl rfl rfl ?_
      refine o_unguard 103 rfl rfl ?_
      refine o_pure (p_eq (p := (Seg.accessErr h key)) (q := (Seg.check h)) rfl rfl) rfl rfl rfl ?_
      refine o_pure (p_pick_true (u := .bool ((Seg.accessErr h key) == (Seg.check h))) rfl rfl) rfl rfl rfl ?_
      exact o_sub (Sub.cons rfl (Sub.skip rfl (Sub.skip rfl (Sub.skip rfl (Sub.skip rfl (Sub.skip rfl (Sub.refl _))))))) hk
    · intro hb83 hk
      refine o_guard_no rfl 103 rfl rfl rfl rfl rfl ?_
      refine o_guard_no rfl 103 rfl rfl rfl rfl rfl ?_
      refine o_guard_no rfl 103 rfl rfl rfl rfl rfl ?_
      refine o_pure (p_pick_false (v := .bool false) rfl rfl) rfl rfl rfl ?_
      exact o_sub (Sub.cons rfl (Sub.skip rfl (Sub.skip rfl (Sub.skip rfl (Sub.skip rfl (Sub.skip rfl (Sub.refl _))))))) hk
    refine o_pure (p_move (v := .bool ((((((Seg.check h) == (Seg.check h)) && (decide (((Seg.access h key).1) = (⟨0, 0, [], []⟩ : DHalls)))) && (((Seg.access h key).2.1) == false)) && (Ref.sameInts ((Seg.access h key).2.2) [])) && ((Seg.accessErr h key) == (Seg.check h)))) rfl) rfl rfl rfl ?_
    refine o_and (p := 112) 4 (decide (((Seg.run h l).1) = (⟨0, 0, [], []⟩ : DHalls))) ?_ ?_ ?_
    · intro hb84 hk
      simp only [Bool.and_eq_true, beq_iff_eq, decide_eq_true_eq] at hb84
      refine o_unguard 108 rfl rfl ?_
      refine o_pure (p_load_agg (i := 3) (vs := [.int .i64 (((Seg.run h l).1).first), .int .i64 (((Seg.run h l).1).second), .slice a16 (((Seg.run h l).1).young).length c17, .slice a18 (((Seg.run h l).1).old).length c19]) rfl rfl sh58 rfl rfl) rfl rfl rfl ?_
      refine o_unguard 108 rfl rfl ?_
      refine o_pure (p_load_agg (i := 0) (vs := [.int .i64 0, .int .i64 0, .slice none 0 0, .slice none 0 0]) rfl rfl sh58 rfl rfl) rfl rfl rfl ?_
      refine o_unguard 108 rfl rfl ?_
      refine o_call0 (v := .bool (decide (((Seg.run h l).1) = (⟨0, 0, [], []⟩ : DHalls)))) rfl (sameHalls_ok ((Seg.run h l).1) a16 c17 a18 c19 (⟨0, 0, [], []⟩ : DHalls) none 0 none 0) hf42 (fun w hw => ⟨(rd_ent (i := 4) rfl (fun w h => h.1)) w hw, (rd_ent (i := 4) rfl (fun w h => h.2)) w hw, rd_nil w hw, rd_nil w hw⟩) rfl ?_
      refine o_pure (p_pick_true (u := .bool (decide (((Seg.run h l).1) = (⟨0, 0, [], []⟩ : DHalls)))) rfl rfl) rfl rfl rfl ?_
      exact o_sub (Sub.cons rfl (Sub.skip rfl (Sub.skip rfl (Sub.skip rfl (Sub.skip rfl (Sub.skip rfl (Sub.refl _))))))) hk
    · intro hb84 hk
      refine o_guard_no rfl 108 rfl rfl rfl rfl rfl ?_
      refine o_guard_no rfl 108 rfl rfl rfl rfl rfl ?_
      refine o_guard_no rfl 108 rfl rfl rfl rfl rfl ?_
      refine o_pure (p_pick_false (v := .bool false) rfl rfl) rfl rfl rfl ?_
      exact o_sub (Sub.cons rfl (Sub.skip rfl (Sub.skip rfl (Sub.skip rfl (Sub.skip rfl (Sub.skip rfl (Sub.refl _))))))) hk
    refine o_pure (p_move (v := .bool (((((((Seg.check h) == (Seg.check h)) && (decide (((Seg.access h key).1) = (⟨0, 0, [], []⟩ : DHalls)))) && (((Seg.access h key).2.1) == false)) && (Ref.sameInts ((Seg.access h key).2.2) [])) && ((Seg.accessErr h key) == (Seg.check h))) && (decide (((Seg.run h l).1) = (⟨0, 0, [], []⟩ : DHalls))))) rfl) rfl rfl rfl ?_
    refine o_and (p := 117) 4 (((Seg.run h l).2) == 0) ?_ ?_ ?_
    · intro hb85 hk
      simp only [Bool.and_eq_true, beq_iff_eq, decide_eq_true_eq] at hb85
      refine o_unguard 113 rfl rfl ?_
      refine o_pure (p_move (v := .int .i64 ((Seg.run h l).2)) rfl) rfl rfl rfl ?_
      refine o_unguard 113 rfl rfl ?_
      refine o_pure (p_move (v := .int .i64 0) rfl) rfl rfl rfl ?_
      refine o_unguard 113 rfl rfl ?_
      refine o_pure (p_eq (p := ((Seg.run h l).2)) (q := 0) rfl rfl) rfl rfl rfl ?_
      refine o_pure (p_pick_true (u := .bool (((Seg.run h l).2) == 0)) rfl rfl) rfl rfl rfl ?_
      exact o_sub (Sub.cons rfl (Sub.skip rfl (Sub.skip rfl (Sub.skip rfl (Sub.skip rfl (Sub.skip rfl (Sub.refl _))))))) hk
    · intro hb85 hk
      refine o_guard_no rfl 113 rfl rfl rfl rfl rfl ?_
      refine o_guard_no rfl 113 rfl rfl rfl rfl rfl ?_
      refine o_guard_no rfl 113 rfl rfl rfl rfl rfl ?_
      refine o_pure (p_pick_false (v := .bool false) rfl rfl) rfl rfl rfl ?_
      exact o_sub (Sub.cons rfl (Sub.skip rfl (Sub.skip rfl (Sub.skip rfl (Sub.skip rfl (Sub.skip rfl (Sub.refl _))))))) hk
    refine o_pure (p_move (v := .bool ((((((((Seg.check h) == (Seg.check h)) && (decide (((Seg.access h key).1) = (⟨0, 0, [], []⟩ : DHalls)))) && (((Seg.access h key).2.1) == false)) && (Ref.sameInts ((Seg.access h key).2.2) [])) && ((Seg.accessErr h key) == (Seg.check h))) && (decide (((Seg.run h l).1) = (⟨0, 0, [], []⟩ : DHalls)))) && (((Seg.run h l).2) == 0))) rfl) rfl rfl rfl ?_
    refine o_and (p := 122) 4 ((Seg.runErr h l) == (Seg.check h)) ?_ ?_ ?_
    · intro hb86 hk
      simp only [Bool.and_eq_true, beq_iff_eq, decide_eq_true_eq] at hb86
      refine o_unguard 118 rfl rfl ?_
      refine o_pure (p_move (v := .int .i64 (Seg.runErr h l)) rfl) rfl rfl rfl ?_
      refine o_unguard 118 rfl rfl ?_
      refine o_pure (p_move (v := .int .i64 (Seg.check h)) rfl) rfl rfl rfl ?_
      refine o_unguard 118 rfl rfl ?_
      refine o_pure (p_eq (p := (Seg.runErr h l)) (q := (Seg.check h)) rfl rfl) rfl rfl rfl ?_
      refine o_pure (p_pick_true (u := .bool ((Seg.runErr h l) == (Seg.check h))) rfl rfl) rfl rfl rfl ?_
      exact o_sub (Sub.cons rfl (Sub.skip rfl (Sub.skip rfl (Sub.skip rfl (Sub.skip rfl (Sub.skip rfl (Sub.refl _))))))) hk
    · intro hb86 hk
      refine o_guard_no rfl 118 rfl rfl rfl rfl rfl ?_
      refine o_guard_no rfl 118 rfl rfl rfl rfl rfl ?_
      refine o_guard_no rfl 118 rfl rfl rfl rfl rfl ?_
      refine o_pure (p_pick_false (v := .bool false) rfl rfl) rfl rfl rfl ?_
      exact o_sub (Sub.cons rfl (Sub.skip rfl (Sub.skip rfl (Sub.skip rfl (Sub.skip rfl (Sub.skip rfl (Sub.refl _))))))) hk
    refine o_pure (p_move (v := .bool (((((((((Seg.check h) == (Seg.check h)) && (decide (((Seg.access h key).1) = (⟨0, 0, [], []⟩ : DHalls)))) && (((Seg.access h key).2.1) == false)) && (Ref.sameInts ((Seg.access h key).2.2) [])) && ((Seg.accessErr h key) == (Seg.check h))) && (decide (((Seg.run h l).1) = (⟨0, 0, [], []⟩ : DHalls)))) && (((Seg.run h l).2) == 0)) && ((Seg.runErr h l) == (Seg.check h)))) rfl) rfl rfl rfl ?_
    refine o_and (p := 127) 4 (Ref.sameInts (Seg.flat h) []) ?_ ?_ ?_
    · intro hb87 hk
      simp only [Bool.and_eq_true, beq_iff_eq, decide_eq_true_eq] at hb87
      refine o_unguard 123 rfl rfl ?_
      refine o_pure (p_move (v := .slice a25 (Seg.flat h).length c26) rfl) rfl rfl rfl ?_
      refine o_unguard 123 rfl rfl ?_
      refine o_pure (p_move (v := .slice none 0 0) rfl) rfl rfl rfl ?_
      refine o_unguard 123 rfl rfl ?_
      refine o_call0 (v := .bool (Ref.sameInts (Seg.flat h) [])) rfl (sameInts_ok (Seg.flat h) a25 c26 [] none 0) hf27 (fun w hw => ⟨(rd_own (i := 2) rfl) w hw, rd_nil w hw⟩) rfl ?_
      refine o_pure (p_pick_true (u := .bool (Ref.sameInts (Seg.flat h) [])) rfl rfl) rfl rfl rfl ?_
      exact o_sub (Sub.cons rfl (Sub.skip rfl (Sub.skip rfl (Sub.skip rfl (Sub.skip rfl (Sub.skip rfl (Sub.refl _))))))) hk
    · intro hb87 hk
      refine o_guard_no rfl 123 rfl rfl rfl rfl rfl ?_
      refine o_guard_no rfl 123 rfl rfl rfl rfl rfl ?_
      refine o_guard_no rfl 123 rfl rfl rfl rfl rfl ?_
      refine o_pure (p_pick_false (v := .bool false) rfl rfl) rfl rfl rfl ?_
      exact o_sub (Sub.cons rfl (Sub.skip rfl (Sub.skip rfl (Sub.skip rfl (Sub.skip rfl (Sub.skip rfl (Sub.refl _))))))) hk
    refine o_pure (p_move (v := .bool ((((((((((Seg.check h) == (Seg.check h)) && (decide (((Seg.access h key).1) = (⟨0, 0, [], []⟩ : DHalls)))) && (((Seg.access h key).2.1) == false)) && (Ref.sameInts ((Seg.access h key).2.2) [])) && ((Seg.accessErr h key) == (Seg.check h))) && (decide (((Seg.run h l).1) = (⟨0, 0, [], []⟩ : DHalls)))) && (((Seg.run h l).2) == 0)) && ((Seg.runErr h l) == (Seg.check h))) && (Ref.sameInts (Seg.flat h) []))) rfl) rfl rfl rfl ?_
    refine o_and (p := 132) 4 ((Seg.check h) == (Seg.check h)) ?_ ?_ ?_
    · intro hb88 hk
      simp only [Bool.and_eq_true, beq_iff_eq, decide_eq_true_eq] at hb88
      refine o_unguard 128 rfl rfl ?_
      refine o_pure (p_move (v := .int .i64 (Seg.check h)) rfl) rfl rfl rfl ?_
      refine o_unguard 128 rfl rfl ?_
      refine o_pure (p_move (v := .int .i64 (Seg.check h)) rfl) rfl rfl rfl ?_
      refine o_unguard 128 rfl rfl ?_
      refine o_pure (p_eq (p := (Seg.check h)) (q := (Seg.check h)) rfl rfl) rfl rfl rfl ?_
      refine o_pure (p_pick_true (u := .bool ((Seg.check h) == (Seg.check h))) rfl rfl) rfl rfl rfl ?_
      exact o_sub (Sub.cons rfl (Sub.skip rfl (Sub.skip rfl (Sub.skip rfl (Sub.skip rfl (Sub.skip rfl (Sub.refl _))))))) hk
    · intro hb88 hk
      refine o_guard_no rfl 128 rfl rfl rfl rfl rfl ?_
      refine o_guard_no rfl 128 rfl rfl rfl rfl rfl ?_
      refine o_guard_no rfl 128 rfl rfl rfl rfl rfl ?_
      refine o_pure (p_pick_false (v := .bool false) rfl rfl) rfl rfl rfl ?_
      exact o_sub (Sub.cons rfl (Sub.skip rfl (Sub.skip rfl (Sub.skip rfl (Sub.skip rfl (Sub.skip rfl (Sub.refl _))))))) hk
    refine o_pure (p_assign (v := .bool (((((((((((Seg.check h) == (Seg.check h)) && (decide (((Seg.access h key).1) = (⟨0, 0, [], []⟩ : DHalls)))) && (((Seg.access h key).2.1) == false)) && (Ref.sameInts ((Seg.access h key).2.2) [])) && ((Seg.accessErr h key) == (Seg.check h))) && (decide (((Seg.run h l).1) = (⟨0, 0, [], []⟩ : DHalls)))) && (((Seg.run h l).2) == 0)) && ((Seg.runErr h l) == (Seg.check h))) && (Ref.sameInts (Seg.flat h) [])) && ((Seg.check h) == (Seg.check h)))) rfl) rfl rfl rfl ?_
    refine o_nil ?_
    refine q_then ?_
    refine c_ret ?_
    have hr0 : ((((((((((((Seg.check h) == (Seg.check h)) && (decide (((Seg.access h key).1) = (⟨0, 0, [], []⟩ : DHalls)))) && (((Seg.access h key).2.1) == false)) && (Ref.sameInts ((Seg.access h key).2.2) [])) && ((Seg.accessErr h key) == (Seg.check h))) && (decide (((Seg.run h l).1) = (⟨0, 0, [], []⟩ : DHalls)))) && (((Seg.run h l).2) == 0)) && ((Seg.runErr h l) == (Seg.check h))) && (Ref.sameInts (Seg.flat h) [])) && ((Seg.check h) == (Seg.check h))) : Bool) = true := by
      first | (obtain ⟨rfl, rfl, rfl, rfl⟩ := hj1; simp [b1, b2, hm, hck, htr, Seg.zero, Ref.sameInts]; done) | (obtain ⟨rfl, rfl, rfl, rfl⟩ := hj1; simp [b1, b2, hm, hck, Seg.zero, Ref.sameInts]; done) | (simp [a1, a2, b1, b2, hm, Seg.zero, Ref.sameInts]; done)
    refine q_end0 (v := .bool (((((((((((Seg.check h) == (Seg.check h)) && (decide (((Seg.access h key).1) = (⟨0, 0, [], []⟩ : DHalls)))) && (((Seg.access h key).2.1) == false)) && (Ref.sameInts ((Seg.access h key).2.2) [])) && ((Seg.accessErr h key) == (Seg.check h))) && (decide (((Seg.run h l).1) = (⟨0, 0, [], []⟩ : DHalls)))) && (((Seg.run h l).2) == 0)) && ((Seg.runErr h l) == (Seg.check h))) && (Ref.sameInts (Seg.flat h) [])) && ((Seg.check h) == (Seg.check h)))) (rt1 rfl (r_tmp rfl)) (i := 8) rfl ?_
    exact (by have hcc := congrArg (fun (y0 : Bool) => (.bool y0 : Value)) hr0; exact hcc)
end Go.Proofs.Ytkndekkacimekaa
