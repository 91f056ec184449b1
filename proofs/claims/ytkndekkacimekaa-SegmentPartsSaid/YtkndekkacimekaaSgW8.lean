/- The walks, printed by a program from the translation and a specification. -/
import Derived.Test.YtkndekkacimekaaSgF
import Derived.Test.YtkndekkacimekaaSgLaw
import Derived.Test.YtkndekkacimekaaSgW7
import Derived.Test.YtkndekkacimekaaSgW5
import Derived.Test.YtkndekkacimekaaSgW4
namespace Go.Proofs.Ytkndekkacimekaa
open Go.Sx Go.RowKit
set_option maxHeartbeats 8000000 in
set_option maxRecDepth 100000 in
theorem saccess_ok (h : DHalls) (ah_0 : Option Addr) (ch_0 : Nat) (ah_1 : Option Addr) (ch_1 : Nat) (key : Int) : FnM Try.prog 33 [.agg #[.int .i64 h.first, .int .i64 h.second, .slice ah_0 h.young.length ch_0, .slice ah_1 h.old.length ch_1], .int .i64 key] (fun w => Rd tInt w ah_0 ch_0 h.young ∧ Rd tInt w ah_1 ch_1 h.old) (Option Addr × Nat × Option Addr × Nat × Option Addr × Nat) (fun p => .tuple #[.agg #[.int .i64 (((Seg.access h key).1).first), .int .i64 (((Seg.access h key).1).second), .slice p.1 (((Seg.access h key).1).young).length p.2.1, .slice p.2.2.1 (((Seg.access h key).1).old).length p.2.2.2.1], .bool ((Seg.access h key).2.1), .slice p.2.2.2.2.1 ((Seg.access h key).2.2).length p.2.2.2.2.2, .int .i64 (Seg.accessErr h key)]) (fun p S w => SlR tInt S w p.1 p.2.1 (((Seg.access h key).1).young) ∧ SlR tInt S w p.2.2.1 p.2.2.2.1 (((Seg.access h key).1).old) ∧ SlR tInt S w p.2.2.2.2.1 p.2.2.2.2.2 ((Seg.access h key).2.2)) := by
  refine fnM (nt := 37) (F0 := [(0, .agg #[.int .i64 h.first, .int .i64 h.second, .slice ah_0 h.young.length ch_0, .slice ah_1 h.old.length ch_1]), (1, .int .i64 key)]) Try.func33 rfl Try.ntmps33 rfl rfl (fun w0 hpre => ?_)
  obtain ⟨hh_0, hh_1⟩ := hpre
  have hlhh_0 := hh_0.2.1
  have hlhh_1 := hh_1.2.1
  refine c_seq ?_
  refine c_region ?_
  refine o_box (v := .agg #[.int .i64 h.first, .int .i64 h.second, .slice ah_0 h.young.length ch_0, .slice ah_1 h.old.length ch_1]) rfl rfl (fun B1 => ?_)
  refine o_alloc ze58 rfl (fun B2 => ?_)
  refine o_pure (p_assign (v := .bool false) rfl) rfl rfl rfl ?_
  refine o_pure (p_assign (v := .slice none 0 0) rfl) rfl rfl rfl ?_
  refine o_pure (p_assign (v := .int .i64 0) rfl) rfl rfl rfl ?_
  refine o_nil ?_
  refine q_then ?_
  refine c_seq ?_
  refine c_region ?_
  refine o_pure (p_load_agg (i := 1) (vs := [.int .i64 h.first, .int .i64 h.second, .slice ah_0 h.young.length ch_0, .slice ah_1 h.old.length ch_1]) rfl rfl sh58 rfl rfl) rfl rfl rfl ?_
  refine o_call0 (v := .int .i64 (Seg.check h)) rfl (scheck_ok h ah_0 ch_0 ah_1 ch_1) hf41 (fun w hw => ⟨(rd_base (i := 2) rfl hh_0) w hw, (rd_base (i := 2) rfl hh_1) w hw⟩) rfl ?_
  refine o_pure (p_assign (v := .int .i64 (Seg.check h)) rfl) rfl rfl rfl ?_
  refine o_nil ?_
  refine q_then ?_
  refine c_seq ?_
  refine c_seq ?_
  refine c_region ?_
  refine o_pure (p_move (v := .int .i64 (Seg.check h)) rfl) rfl rfl rfl ?_
  refine o_pure (p_eq (p := (Seg.check h)) (q := 0) rfl rfl) rfl rfl rfl ?_
  refine o_pure (p_move (v := .bool ((Seg.check h) == 0)) rfl) rfl rfl rfl ?_
  refine o_and (p := 20) 4 (!(Lru.okKey key)) ?_ ?_ ?_
  · intro hb3 hk
    simp only [beq_iff_eq] at hb3
    refine o_unguard 16 rfl rfl ?_
    refine o_pure (p_move (v := .int .i64 key) rfl) rfl rfl rfl ?_
    refine o_unguard 16 rfl rfl ?_
    refine o_call0 (v := .bool (Lru.okKey key)) rfl (key_ok key) hf52 (fun _ _ => trivial) rfl ?_
    refine o_unguard 16 rfl rfl ?_
    refine o_pure (p_not (b := (Lru.okKey key)) rfl) rfl rfl rfl ?_
    refine o_pure (p_pick_true (u := .bool (!(Lru.okKey key))) rfl rfl) rfl rfl rfl ?_
    exact o_sub (Sub.cons rfl (Sub.skip rfl (Sub.skip rfl (Sub.skip rfl (Sub.skip rfl (Sub.skip rfl (Sub.refl _))))))) hk
  · intro hb3 hk
    refine o_guard_no rfl 16 rfl rfl rfl rfl rfl ?_
    refine o_guard_no rfl 16 rfl rfl rfl rfl rfl ?_
    refine o_guard_no rfl 16 rfl rfl rfl rfl rfl ?_
    refine o_pure (p_pick_false (v := .bool false) rfl rfl) rfl rfl rfl ?_
    exact o_sub (Sub.cons rfl (Sub.skip rfl (Sub.skip rfl (Sub.skip rfl (Sub.skip rfl (Sub.skip rfl (Sub.refl _))))))) hk
  refine o_nil ?_
  refine q_then ?_
  refine c_cond (b := (((Seg.check h) == 0) && (!(Lru.okKey key)))) rfl (fun hc4 => ?_) (fun hc4 => ?_)
  · simp only [Bool.and_eq_true, beq_iff_eq, Bool.not_eq_true'] at hc4
    have hbad := hc4
    refine c_region ?_
    refine o_pure (p_assign (v := .int .i64 3) rfl) rfl rfl rfl ?_
    refine o_nil ?_
    refine q_then ?_
    refine c_seq ?_
    refine c_seq ?_
    refine c_region ?_
    refine o_pure (p_move (v := .int .i64 3) rfl) rfl rfl rfl ?_
    refine o_pure (p_ne (p := 3) (q := 0) rfl rfl) rfl rfl rfl ?_
    refine o_nil ?_
    refine q_then ?_
    refine c_true rfl ?_
    refine c_seq ?_
    refine c_region ?_
    refine o_pure (p_build (cells := [.int .i64 0, .int .i64 0, .slice none 0 0, .slice none 0 0]) fp58 ze58 rfl rfl) rfl rfl rfl ?_
    refine o_pure (p_move (v := .int .i64 3) rfl) rfl rfl rfl ?_
    refine o_storeN (i := 0) (vs := [.int .i64 0, .int .i64 0, .slice none 0 0, .slice none 0 0]) (cs' := [.int .i64 0, .int .i64 0, .slice none 0 0, .slice none 0 0]) rfl rfl rfl sz58 rfl rfl rfl rfl ?_
    refine o_pure (p_assign (v := .bool false) rfl) rfl rfl rfl ?_
    refine o_pure (p_assign (v := .slice none 0 0) rfl) rfl rfl rfl ?_
    refine o_pure (p_assign (v := .int .i64 3) rfl) rfl rfl rfl ?_
    refine o_nil ?_
    refine q_then ?_
    refine c_ret ?_
    refine q_then_ret ?_
    obtain ⟨ha, hae⟩ : _ ∧ _ := by first | exact Seg.acc2 (c := h) (key := key) hbad | exact Seg.acc3 (c := h) (key := key) hro (by assumption) | exact Seg.acc1 (c := h) (key := key) (by assumption)
    have hr0 : (0 : Int) = ((Seg.access h key).1).first := by
      first | (simp only [ha, hae, Seg.zero]; done) | (rw [ha]; done)
    have hr1 : (0 : Int) = ((Seg.access h key).1).second := by
      first | (simp only [ha, hae, Seg.zero]; done) | (rw [ha]; done)
    have hr2 : ([] : List Int) = ((Seg.access h key).1).young := by
      first | (simp only [ha, hae, Seg.zero]; done) | (rw [ha]; done)
    have hr3 : ([] : List Int) = ((Seg.access h key).1).old := by
      first | (simp only [ha, hae, Seg.zero]; done) | (rw [ha]; done)
    have hr4 : (false : Bool) = ((Seg.access h key).2.1) := by
      first | (simp only [ha, hae, Seg.zero]; done) | (rw [ha]; done)
    have hr5 : ([] : List Int) = ((Seg.access h key).2.2) := by
      first | (simp only [ha, hae, Seg.zero]; done) | (rw [ha]; done)
    have hr6 : (3 : Int) = (Seg.accessErr h key) := by
      first | (simp only [ha, hae, Seg.zero]; done) | (rw [ha]; done)
    refine q_endM (p := (none, 0, none, 0, none, 0)) (fun _ => False) (rt4 rfl (r_cell (i := 0) rfl rfl sh58 rfl) (r_tmp rfl) (r_tmp rfl) (r_tmp rfl)) (i := 2) rfl ?_ ?_ ?_
    · exact (by have hcc := congr (congr (congr (congr (congr (congr (congrArg (fun (y0 : Int) (y1 : Int) (y2 : List Int) (y3 : List Int) (y4 : Bool) (y5 : List Int) (y6 : Int) => (.tuple #[.agg #[.int .i64 y0, .int .i64 y1, .slice none y2.length 0, .slice none y3.length 0], .bool y4, .slice none y5.length 0, .int .i64 y6] : Value)) hr0) hr1) hr2) hr3) hr4) hr5) hr6; exact hcc)
    · intro w hw b hb; exact hb.elim
    · intro w hw; exact ⟨Eq.mp (congrArg (fun y => SlR tInt _ w none 0 y) hr2) (SlR.nil tInt _ w), Eq.mp (congrArg (fun y => SlR tInt _ w none 0 y) hr3) (SlR.nil tInt _ w), Eq.mp (congrArg (fun y => SlR tInt _ w none 0 y) hr5) (SlR.nil tInt _ w)⟩
  · simp only [Bool.and_eq_false_iff, beq_eq_false_iff_ne, ne_eq, Bool.not_eq_false'] at hc4
    have hro := hc4
    refine c_skip ?_
    refine q_then ?_
    refine c_seq ?_
    refine c_seq ?_
    refine c_region ?_
    refine o_pure (p_move (v := .int .i64 (Seg.check h)) rfl) rfl rfl rfl ?_
    refine o_pure (p_ne (p := (Seg.check h)) (q := 0) rfl rfl) rfl rfl rfl ?_
    refine o_nil ?_
    refine q_then ?_
    refine c_cond (b := ((Seg.check h) != 0)) rfl (fun hc5 => ?_) (fun hc5 => ?_)
    · simp only [bne_iff_ne, ne_eq] at hc5
      refine c_seq ?_
      refine c_region ?_
      refine o_pure (p_build (cells := [.int .i64 0, .int .i64 0, .slice none 0 0, .slice none 0 0]) fp58 ze58 rfl rfl) rfl rfl rfl ?_
      refine o_pure (p_move (v := .int .i64 (Seg.check h)) rfl) rfl rfl rfl ?_
      refine o_storeN (i := 0) (vs := [.int .i64 0, .int .i64 0, .slice none 0 0, .slice none 0 0]) (cs' := [.int .i64 0, .int .i64 0, .slice none 0 0, .slice none 0 0]) rfl rfl rfl sz58 rfl rfl rfl rfl ?_
      refine o_pure (p_assign (v := .bool false) rfl) rfl rfl rfl ?_
      refine o_pure (p_assign (v := .slice none 0 0) rfl) rfl rfl rfl ?_
      refine o_pure (p_assign (v := .int .i64 (Seg.check h)) rfl) rfl rfl rfl ?_
      refine o_nil ?_
      refine q_then ?_
      refine c_ret ?_
      refine q_then_ret ?_
      obtain ⟨ha, hae⟩ : _ ∧ _ := by first | exact Seg.acc2 (c := h) (key := key) hbad | exact Seg.acc3 (c := h) (key := key) hro (by assumption) | exact Seg.acc1 (c := h) (key := key) (by assumption)
      have hr0 : (0 : Int) = ((Seg.access h key).1).first := by
        first | (simp only [ha, hae, Seg.zero]; done) | (rw [ha]; done)
      have hr1 : (0 : Int) = ((Seg.access h key).1).second := by
        first | (simp only [ha, hae, Seg.zero]; done) | (rw [ha]; done)
      have hr2 : ([] : List Int) = ((Seg.access h key).1).young := by
        first | (simp only [ha, hae, Seg.zero]; done) | (rw [ha]; done)
      have hr3 : ([] : List Int) = ((Seg.access h key).1).old := by
        first | (simp only [ha, hae, Seg.zero]; done) | (rw [ha]; done)
      have hr4 : (false : Bool) = ((Seg.access h key).2.1) := by
        first | (simp only [ha, hae, Seg.zero]; done) | (rw [ha]; done)
      have hr5 : ([] : List Int) = ((Seg.access h key).2.2) := by
        first | (simp only [ha, hae, Seg.zero]; done) | (rw [ha]; done)
      have hr6 : ((Seg.check h) : Int) = (Seg.accessErr h key) := by
        first | (simp only [ha, hae, Seg.zero]; done) | (rw [ha]; done)
      refine q_endM (p := (none, 0, none, 0, none, 0)) (fun _ => False) (rt4 rfl (r_cell (i := 0) rfl rfl sh58 rfl) (r_tmp rfl) (r_tmp rfl) (r_tmp rfl)) (i := 2) rfl ?_ ?_ ?_
      · exact (by have hcc := congr (congr (congr (congr (congr (congr (congrArg (fun (y0 : Int) (y1 : Int) (y2 : List Int) (y3 : List Int) (y4 : Bool) (y5 : List Int) (y6 : Int) => (.tuple #[.agg #[.int .i64 y0, .int .i64 y1, .slice none y2.length 0, .slice none y3.length 0], .bool y4, .slice none y5.length 0, .int .i64 y6] : Value)) hr0) hr1) hr2) hr3) hr4) hr5) hr6; exact hcc)
      · intro w hw b hb; exact hb.elim
      · intro w hw; exact ⟨Eq.mp (congrArg (fun y => SlR tInt _ w none 0 y) hr2) (SlR.nil tInt _ w), Eq.mp (congrArg (fun y => SlR tInt _ w none 0 y) hr3) (SlR.nil tInt _ w), Eq.mp (congrArg (fun y => SlR tInt _ w none 0 y) hr5) (SlR.nil tInt _ w)⟩
    · simp only [bne_eq_false_iff_eq] at hc5
      have hck := hc5
      have hok := Seg.ok_of hck
      have hfr := hok.first
      have hse := hok.second
      have hl1 := hok.len1
      have hl2 := hok.len2
      refine c_skip ?_
      refine q_then ?_
      refine c_seq ?_
      refine c_region ?_
      refine o_pure (p_load_agg (i := 1) (vs := [.int .i64 h.first, .int .i64 h.second, .slice ah_0 h.young.length ch_0, .slice ah_1 h.old.length ch_1]) rfl rfl sh58 rfl rfl) rfl rfl rfl ?_
      refine o_callX (pre := []) (R := [box B2 [.int .i64 0, .int .i64 0, .slice none 0 0, .slice none 0 0] 58, box B1 [.int .i64 h.first, .int .i64 h.second, .slice ah_0 h.young.length ch_0, .slice ah_1 h.old.length ch_1] 58, base w0]) rfl (sowned_ok h ah_0 ch_0 ah_1 ch_1 (by omega)) hf64 rfl (fun w hw => ⟨(rdX (i := 2) (js := []) rfl (by decide) rfl (fun _ hA => slR_base hh_0 hA)) w hw, (rdX (i := 2) (js := []) rfl (by decide) rfl (fun _ hA => slR_base hh_1 hA)) w hw⟩) rfl ?_
      rintro ⟨B6, a7, c8, S9, a10, c11, S12⟩
      refine o_asH (H' := [box B6 [.slice a7 h.young.length c8, .int .i64 h.first, .slice a10 h.old.length c11, .int .i64 h.second] 131, own tInt S9 a7 c8 h.young, own tInt S12 a10 c11 h.old, box B2 [.int .i64 0, .int .i64 0, .slice none 0 0, .slice none 0 0] 58, box B1 [.int .i64 h.first, .int .i64 h.second, .slice ah_0 h.young.length ch_0, .slice ah_1 h.old.length ch_1] 58, base w0]) rfl ?_
      refine o_pure (p_assign (v := .pointer (some ⟨B6, 0, none⟩)) rfl) rfl rfl rfl ?_
      refine o_nil ?_
      refine q_then ?_
      refine c_seq ?_
      refine c_region ?_
      refine o_pure (p_move (v := .pointer (some ⟨B6, 0, none⟩)) rfl) rfl rfl rfl ?_
      refine o_pure (p_move (v := .int .i64 key) rfl) rfl rfl rfl ?_
      refine o_callX (pre := [box B6 [.slice a7 h.young.length c8, .int .i64 h.first, .slice a10 h.old.length c11, .int .i64 h.second] 131, own tInt S9 a7 c8 h.young, own tInt S12 a10 c11 h.old]) (R := [box B2 [.int .i64 0, .int .i64 0, .slice none 0 0, .slice none 0 0] 58, box B1 [.int .i64 h.first, .int .i64 h.second, .slice ah_0 h.young.length ch_0, .slice ah_1 h.old.length ch_1] 58, base w0]) rfl (stouch_ok h B6 a7 c8 S9 a10 c11 S12 key (by first | assumption | exact hI.ok | omega)) hf65 rfl (fun _ _ => trivial) rfl ?_
      rintro ⟨a15, c16, S17, a18, c19, S20, a21, c22, S23⟩
      refine o_asH (H' := [box B6 [.slice a15 (((Seg.touch h key).1).young).length c16, .int .i64 (((Seg.touch h key).1).first), .slice a18 (((Seg.touch h key).1).old).length c19, .int .i64 (((Seg.touch h key).1).second)] 131, own tInt S17 a15 c16 (((Seg.touch h key).1).young), own tInt S20 a18 c19 (((Seg.touch h key).1).old), own tInt S23 a21 c22 ((Seg.touch h key).2.2), box B2 [.int .i64 0, .int .i64 0, .slice none 0 0, .slice none 0 0] 58, box B1 [.int .i64 h.first, .int .i64 h.second, .slice ah_0 h.young.length ch_0, .slice ah_1 h.old.length ch_1] 58, base w0]) rfl ?_
      refine o_pure (p_move (v := .tuple #[.bool ((Seg.touch h key).2.1), .slice a21 ((Seg.touch h key).2.2).length c22]) rfl) rfl rfl rfl ?_
      refine o_pure (p_extract (vs := [.bool ((Seg.touch h key).2.1), .slice a21 ((Seg.touch h key).2.2).length c22]) (v := .bool ((Seg.touch h key).2.1)) rfl rfl) rfl rfl rfl ?_
      refine o_pure (p_extract (vs := [.bool ((Seg.touch h key).2.1), .slice a21 ((Seg.touch h key).2.2).length c22]) (v := .slice a21 ((Seg.touch h key).2.2).length c22) rfl rfl) rfl rfl rfl ?_
      refine o_pure (p_assign (v := .bool ((Seg.touch h key).2.1)) rfl) rfl rfl rfl ?_
      refine o_pure (p_assign (v := .slice a21 ((Seg.touch h key).2.2).length c22) rfl) rfl rfl rfl ?_
      refine o_nil ?_
      refine q_then ?_
      refine c_seq ?_
      refine c_region ?_
      refine o_pure (p_move (v := .pointer (some ⟨B6, 0, none⟩)) rfl) rfl rfl rfl ?_
      refine o_callX (pre := [box B6 [.slice a15 (((Seg.touch h key).1).young).length c16, .int .i64 (((Seg.touch h key).1).first), .slice a18 (((Seg.touch h key).1).old).length c19, .int .i64 (((Seg.touch h key).1).second)] 131, own tInt S17 a15 c16 (((Seg.touch h key).1).young), own tInt S20 a18 c19 (((Seg.touch h key).1).old)]) (R := [own tInt S23 a21 c22 ((Seg.touch h key).2.2), box B2 [.int .i64 0, .int .i64 0, .slice none 0 0, .slice none 0 0] 58, box B1 [.int .i64 h.first, .int .i64 h.second, .slice ah_0 h.young.length ch_0, .slice ah_1 h.old.length ch_1] 58, base w0]) rfl (shalls_ok ((Seg.touch h key).1) B6 a15 c16 S17 a18 c19 S20) hf66 rfl (fun _ _ => trivial) rfl ?_
      rintro ⟨a27, c28, S29, a30, c31, S32⟩
      refine o_asH (H' := [own tInt S29 a27 c28 (((Seg.touch h key).1).young), own tInt S32 a30 c31 (((Seg.touch h key).1).old), own tInt S23 a21 c22 ((Seg.touch h key).2.2), box B2 [.int .i64 0, .int .i64 0, .slice none 0 0, .slice none 0 0] 58, box B1 [.int .i64 h.first, .int .i64 h.second, .slice ah_0 h.young.length ch_0, .slice ah_1 h.old.length ch_1] 58, base w0]) rfl ?_
      refine o_pure (p_move (v := .bool ((Seg.touch h key).2.1)) rfl) rfl rfl rfl ?_
      refine o_pure (p_move (v := .slice a21 ((Seg.touch h key).2.2).length c22) rfl) rfl rfl rfl ?_
      refine o_storeN (i := 3) (vs := [.int .i64 (((Seg.touch h key).1).first), .int .i64 (((Seg.touch h key).1).second), .slice a27 (((Seg.touch h key).1).young).length c28, .slice a30 (((Seg.touch h key).1).old).length c31]) (cs' := [.int .i64 (((Seg.touch h key).1).first), .int .i64 (((Seg.touch h key).1).second), .slice a27 (((Seg.touch h key).1).young).length c28, .slice a30 (((Seg.touch h key).1).old).length c31]) rfl rfl rfl sz58 rfl rfl rfl rfl ?_
      refine o_pure (p_assign (v := .bool ((Seg.touch h key).2.1)) rfl) rfl rfl rfl ?_
      refine o_pure (p_assign (v := .slice a21 ((Seg.touch h key).2.2).length c22) rfl) rfl rfl rfl ?_
      refine o_pure (p_assign (v := .int .i64 0) rfl) rfl rfl rfl ?_
      refine o_nil ?_
      refine q_then ?_
      refine c_ret ?_
      obtain ⟨ha, hae⟩ : _ ∧ _ := by first | exact Seg.acc2 (c := h) (key := key) hbad | exact Seg.acc3 (c := h) (key := key) hro (by assumption) | exact Seg.acc1 (c := h) (key := key) (by assumption)
      have hr0 : (((Seg.touch h key).1).first : Int) = ((Seg.access h key).1).first := by
        first | (simp only [ha, hae, Seg.zero]; done) | (rw [ha]; done)
      have hr1 : (((Seg.touch h key).1).second : Int) = ((Seg.access h key).1).second := by
        first | (simp only [ha, hae, Seg.zero]; done) | (rw [ha]; done)
      have hr2 : (((Seg.touch h key).1).young : List Int) = ((Seg.access h key).1).young := by
        first | (simp only [ha, hae, Seg.zero]; done) | (rw [ha]; done)
      have hr3 : (((Seg.touch h key).1).old : List Int) = ((Seg.access h key).1).old := by
        first | (simp only [ha, hae, Seg.zero]; done) | (rw [ha]; done)
      have hr4 : (((Seg.touch h key).2.1) : Bool) = ((Seg.access h key).2.1) := by
        first | (simp only [ha, hae, Seg.zero]; done) | (rw [ha]; done)
      have hr5 : (((Seg.touch h key).2.2) : List Int) = ((Seg.access h key).2.2) := by
        first | (simp only [ha, hae, Seg.zero]; done) | (rw [ha]; done)
      have hr6 : (0 : Int) = (Seg.accessErr h key) := by
        first | (simp only [ha, hae, Seg.zero]; done) | (rw [ha]; done)
      refine q_endM (p := (a27, c28, a30, c31, a21, c22)) (fun b => S29 b ∨ S32 b ∨ S23 b) (rt4 rfl (r_cell (i := 3) rfl rfl sh58 rfl) (r_tmp rfl) (r_tmp rfl) (r_tmp rfl)) (i := 5) rfl ?_ ?_ ?_
      · exact (by have hcc := congr (congr (congr (congr (congr (congr (congrArg (fun (y0 : Int) (y1 : Int) (y2 : List Int) (y3 : List Int) (y4 : Bool) (y5 : List Int) (y6 : Int) => (.tuple #[.agg #[.int .i64 y0, .int .i64 y1, .slice a27 y2.length c28, .slice a30 y3.length c31], .bool y4, .slice a21 y5.length c22, .int .i64 y6] : Value)) hr0) hr1) hr2) hr3) hr4) hr5) hr6; exact hcc)
      · intro w hw b hb; rcases hb with hb | hb | hb
        · exact hw.above (i := 5) (j := 0) (by decide) rfl rfl b hb
        · exact hw.above (i := 5) (j := 1) (by decide) rfl rfl b hb
        · exact hw.above (i := 5) (j := 2) (by decide) rfl rfl b hb
      · intro w hw; exact ⟨Eq.mp (congrArg (fun y => SlR tInt _ w a27 c28 y) hr2) (SlR.mono (fun b hb => by simp [hb]) (SlO.toR (hw.at (i := 0) rfl).here)), Eq.mp (congrArg (fun y => SlR tInt _ w a30 c31 y) hr3) (SlR.mono (fun b hb => by simp [hb]) (SlO.toR (hw.at (i := 1) rfl).here)), Eq.mp (congrArg (fun y => SlR tInt _ w a21 c22 y) hr5) (SlR.mono (fun b hb => by simp [hb]) (SlO.toR (hw.at (i := 2) rfl).here))⟩

set_option maxHeartbeats 8000000 in
set_option maxRecDepth 100000 in
theorem srun_ok (h : DHalls) (ah_0 : Option Addr) (ch_0 : Nat) (ah_1 : Option Addr) (ch_1 : Nat) (l : List Int) (al : Option Addr) (cl : Nat) : FnM Try.prog 34 [.agg #[.int .i64 h.first, .int .i64 h.second, .slice ah_0 h.young.length ch_0, .slice ah_1 h.old.length ch_1], .slice al l.length cl] (fun w => Rd tInt w ah_0 ch_0 h.young ∧ Rd tInt w ah_1 ch_1 h.old ∧ Rd tInt w al cl l) (Option Addr × Nat × Option Addr × Nat) (fun p => .tuple #[.agg #[.int .i64 (((Seg.run h l).1).first), .int .i64 (((Seg.run h l).1).second), .slice p.1 (((Seg.run h l).1).young).length p.2.1, .slice p.2.2.1 (((Seg.run h l).1).old).length p.2.2.2], .int .i64 ((Seg.run h l).2), .int .i64 (Seg.runErr h l)]) (fun p S w => SlR tInt S w p.1 p.2.1 (((Seg.run h l).1).young) ∧ SlR tInt S w p.2.2.1 p.2.2.2 (((Seg.run h l).1).old)) := by
  refine fnM (nt := 45) (F0 := [(0, .agg #[.int .i64 h.first, .int .i64 h.second, .slice ah_0 h.young.length ch_0, .slice ah_1 h.old.length ch_1]), (1, .slice al l.length cl)]) Try.func34 rfl Try.ntmps34 rfl rfl (fun w0 hpre => ?_)
  obtain ⟨hh_0, hh_1, hl⟩ := hpre
  have hlhh_0 := hh_0.2.1
  have hlhh_1 := hh_1.2.1
  have hlhl := hl.2.1
  refine c_seq ?_
  refine c_region ?_
  refine o_box (v := .agg #[.int .i64 h.first, .int .i64 h.second, .slice ah_0 h.young.length ch_0, .slice ah_1 h.old.length ch_1]) rfl rfl (fun B1 => ?_)
  refine o_alloc ze58 rfl (fun B2 => ?_)
  refine o_pure (p_assign (v := .int .i64 0) rfl) rfl rfl rfl ?_
  refine o_pure (p_assign (v := .int .i64 0) rfl) rfl rfl rfl ?_
  refine o_nil ?_
  refine q_then ?_
  refine c_seq ?_
  refine c_region ?_
  refine o_pure (p_load_agg (i := 1) (vs := [.int .i64 h.first, .int .i64 h.second, .slice ah_0 h.young.length ch_0, .slice ah_1 h.old.length ch_1]) rfl rfl sh58 rfl rfl) rfl rfl rfl ?_
  refine o_call0 (v := .int .i64 (Seg.check h)) rfl (scheck_ok h ah_0 ch_0 ah_1 ch_1) hf41 (fun w hw => ⟨(rd_base (i := 2) rfl hh_0) w hw, (rd_base (i := 2) rfl hh_1) w hw⟩) rfl ?_
  refine o_pure (p_assign (v := .int .i64 (Seg.check h)) rfl) rfl rfl rfl ?_
  refine o_nil ?_
  refine q_then ?_
  refine c_seq ?_
  refine c_seq ?_
  refine c_region ?_
  refine o_pure (p_move (v := .int .i64 (Seg.check h)) rfl) rfl rfl rfl ?_
  refine o_pure (p_eq (p := (Seg.check h)) (q := 0) rfl rfl) rfl rfl rfl ?_
  refine o_nil ?_
  refine q_then ?_
  refine c_cond (b := ((Seg.check h) == 0)) rfl (fun hc3 => ?_) (fun hc3 => ?_)
  · simp only [beq_iff_eq] at hc3
    have hck := hc3
    have hok := Seg.ok_of hck
    have hfr := hok.first
    have hse := hok.second
    have hl1 := hok.len1
    have hl2 := hok.len2
    refine c_region ?_
    refine o_pure (p_move (v := .slice al l.length cl) rfl) rfl rfl rfl ?_
    refine o_call0 (v := .int .i64 (Lru.trace l)) rfl (checkTrace_ok l al cl) hf57 (fun w hw => (rd_base (i := 2) rfl hl) w hw) rfl ?_
    refine o_pure (p_assign (v := .int .i64 (Lru.trace l)) rfl) rfl rfl rfl ?_
    refine o_nil ?_
    refine q_then ?_
    refine c_seq ?_
    refine c_seq ?_
    refine c_region ?_
    refine o_pure (p_move (v := .int .i64 (Lru.trace l)) rfl) rfl rfl rfl ?_
    refine o_pure (p_ne (p := (Lru.trace l)) (q := 0) rfl rfl) rfl rfl rfl ?_
    refine o_nil ?_
    refine q_then ?_
    refine c_cond (b := ((Lru.trace l) != 0)) rfl (fun hc4 => ?_) (fun hc4 => ?_)
    · simp only [bne_iff_ne, ne_eq] at hc4
      refine c_seq ?_
      refine c_region ?_
      refine o_pure (p_build (cells := [.int .i64 0, .int .i64 0, .slice none 0 0, .slice none 0 0]) fp58 ze58 rfl rfl) rfl rfl rfl ?_
      refine o_pure (p_move (v := .int .i64 (Lru.trace l)) rfl) rfl rfl rfl ?_
      refine o_storeN (i := 0) (vs := [.int .i64 0, .int .i64 0, .slice none 0 0, .slice none 0 0]) (cs' := [.int .i64 0, .int .i64 0, .slice none 0 0, .slice none 0 0]) rfl rfl rfl sz58 rfl rfl rfl rfl ?_
      refine o_pure (p_assign (v := .int .i64 0) rfl) rfl rfl rfl ?_
      refine o_pure (p_assign (v := .int .i64 (Lru.trace l)) rfl) rfl rfl rfl ?_
      refine o_nil ?_
      refine q_then ?_
      refine c_ret ?_
      refine q_then_ret ?_
      obtain ⟨ha, hae⟩ : _ ∧ _ := by first | exact Seg.run1 (c := h) (l := l) (by assumption) | exact Seg.run2 (c := h) (l := l) (by assumption) (by assumption) | (obtain ⟨h1, h2⟩ := Seg.run3 (c := h) (l := l) (by assumption) (by assumption); rw [hI.done (by omega)] at h1; exact ⟨h1, h2⟩)
      have hr0 : (0 : Int) = ((Seg.run h l).1).first := by
        first | (simp only [ha, hae, Seg.zero]; done) | (rw [ha]; done)
      have hr1 : (0 : Int) = ((Seg.run h l).1).second := by
        first | (simp only [ha, hae, Seg.zero]; done) | (rw [ha]; done)
      have hr2 : ([] : List Int) = ((Seg.run h l).1).young := by
        first | (simp only [ha, hae, Seg.zero]; done) | (rw [ha]; done)
      have hr3 : ([] : List Int) = ((Seg.run h l).1).old := by
        first | (simp only [ha, hae, Seg.zero]; done) | (rw [ha]; done)
      have hr4 : (0 : Int) = ((Seg.run h l).2) := by
        first | (simp only [ha, hae, Seg.zero]; done) | (rw [ha]; done)
      have hr5 : ((Lru.trace l) : Int) = (Seg.runErr h l) := by
        first | (simp only [ha, hae, Seg.zero]; done) | (rw [ha]; done)
      refine q_endM (p := (none, 0, none, 0)) (fun _ => False) (rt3 rfl (r_cell (i := 0) rfl rfl sh58 rfl) (r_tmp rfl) (r_tmp rfl)) (i := 2) rfl ?_ ?_ ?_
      · exact (by have hcc := congr (congr (congr (congr (congr (congrArg (fun (y0 : Int) (y1 : Int) (y2 : List Int) (y3 : List Int) (y4 : Int) (y5 : Int) => (.tuple #[.agg #[.int .i64 y0, .int .i64 y1, .slice none y2.length 0, .slice none y3.length 0], .int .i64 y4, .int .i64 y5] : Value)) hr0) hr1) hr2) hr3) hr4) hr5; exact hcc)
      · intro w hw b hb; exact hb.elim
      · intro w hw; exact ⟨Eq.mp (congrArg (fun y => SlR tInt _ w none 0 y) hr2) (SlR.nil tInt _ w), Eq.mp (congrArg (fun y => SlR tInt _ w none 0 y) hr3) (SlR.nil tInt _ w)⟩
    · simp only [bne_eq_false_iff_eq] at hc4
      refine c_skip ?_
      refine q_then ?_
      refine c_seq ?_
      refine c_region ?_
      refine o_pure (p_load_agg (i := 1) (vs := [.int .i64 h.first, .int .i64 h.second, .slice ah_0 h.young.length ch_0, .slice ah_1 h.old.length ch_1]) rfl rfl sh58 rfl rfl) rfl rfl rfl ?_
      refine o_callX (pre := []) (R := [box B2 [.int .i64 0, .int .i64 0, .slice none 0 0, .slice none 0 0] 58, box B1 [.int .i64 h.first, .int .i64 h.second, .slice ah_0 h.young.length ch_0, .slice ah_1 h.old.length ch_1] 58, base w0]) rfl (sowned_ok h ah_0 ch_0 ah_1 ch_1 (by omega)) hf64 rfl (fun w hw => ⟨(rdX (i := 2) (js := []) rfl (by decide) rfl (fun _ hA => slR_base hh_0 hA)) w hw, (rdX (i := 2) (js := []) rfl (by decide) rfl (fun _ hA => slR_base hh_1 hA)) w hw⟩) rfl ?_
      rintro ⟨B5, a6, c7, S8, a9, c10, S11⟩
      refine o_asH (H' := [box B5 [.slice a6 h.young.length c7, .int .i64 h.first, .slice a9 h.old.length c10, .int .i64 h.second] 131, own tInt S8 a6 c7 h.young, own tInt S11 a9 c10 h.old, box B2 [.int .i64 0, .int .i64 0, .slice none 0 0, .slice none 0 0] 58, box B1 [.int .i64 h.first, .int .i64 h.second, .slice ah_0 h.young.length ch_0, .slice ah_1 h.old.length ch_1] 58, base w0]) rfl ?_
      refine o_pure (p_assign (v := .pointer (some ⟨B5, 0, none⟩)) rfl) rfl rfl rfl ?_
      refine o_pure (p_assign (v := .int .i64 0) rfl) rfl rfl rfl ?_
      refine o_nil ?_
      refine q_then ?_
      refine c_seq ?_
      refine c_seq ?_
      refine c_region ?_
      refine o_pure (p_move (v := .slice al l.length cl) rfl) rfl rfl rfl ?_
      refine o_pure (p_len_slice (len := l.length) rfl rfl Try.underlying30) rfl rfl rfl ?_
      refine o_pure (p_move (v := .int .i64 0) rfl) rfl rfl rfl ?_
      refine o_nil ?_
      refine q_then ?_
      refine c_block ?_
      refine c_loop (St := Int × Nat × DHalls × Option Addr × Nat × (Nat → Prop) × Option Addr × Nat × (Nat → Prop))
        (fun ⟨hits, k, cc, acc_0, ccc_0, Scc_0, acc_1, ccc_1, Scc_1⟩ => [(4, .pointer (some ⟨B2, 0, none⟩)), (8, .pointer (some ⟨B5, 0, none⟩)), (9, .int .i64 hits), (26, .slice al l.length cl), (27, .int .i64 (l.length : Int)), (28, .int .i64 (k : Int))])
        (fun ⟨hits, k, cc, acc_0, ccc_0, Scc_0, acc_1, ccc_1, Scc_1⟩ => [box B5 [.slice acc_0 cc.young.length ccc_0, .int .i64 cc.first, .slice acc_1 cc.old.length ccc_1, .int .i64 cc.second] 131, own tInt Scc_0 acc_0 ccc_0 cc.young, own tInt Scc_1 acc_1 ccc_1 cc.old, box B2 [.int .i64 0, .int .i64 0, .slice none 0 0, .slice none 0 0] 58, box B1 [.int .i64 h.first, .int .i64 h.second, .slice ah_0 h.young.length ch_0, .slice ah_1 h.old.length ch_1] 58, base w0])
        (fun ⟨hits, k, cc, acc_0, ccc_0, Scc_0, acc_1, ccc_1, Scc_1⟩ => Seg.RInv h cc l hits k)
        (fun ⟨hits, k, cc, acc_0, ccc_0, Scc_0, acc_1, ccc_1, Scc_1⟩ => l.length - k)
        (0, 0, h, a6, c7, S8, a9, c10, S11) ?_ (Sub.cons rfl (Sub.cons rfl (Sub.cons rfl (Sub.cons rfl (Sub.cons rfl (Sub.cons rfl (Sub.nil _))))))) (fun _ hw => hw) ?_
      · exact Seg.RInv.start' (by assumption) (by assumption)
      rintro ⟨hits, k, cc, acc_0, ccc_0, Scc_0, acc_1, ccc_1, Scc_1⟩ hI K hK14
      have hn0 := hI.n0
      have hn1 := hI.n1
      show SC _ _ Try.prog 45 w0 _ _ [(4, .pointer (some ⟨B2, 0, none⟩)), (8, .pointer (some ⟨B5, 0, none⟩)), (9, .int .i64 hits), (26, .slice al l.length cl), (27, .int .i64 (l.length : Int)), (28, .int .i64 (k : Int))] [box B5 [.slice acc_0 cc.young.length ccc_0, .int .i64 cc.first, .slice acc_1 cc.old.length ccc_1, .int .i64 cc.second] 131, own tInt Scc_0 acc_0 ccc_0 cc.young, own tInt Scc_1 acc_1 ccc_1 cc.old, box B2 [.int .i64 0, .int .i64 0, .slice none 0 0, .slice none 0 0] 58, box B1 [.int .i64 h.first, .int .i64 h.second, .slice ah_0 h.young.length ch_0, .slice ah_1 h.old.length ch_1] 58, base w0]
      refine c_seq ?_
      refine c_region ?_
      refine o_pure (p_lt (p := (k : Int)) (q := (l.length : Int)) rfl rfl) rfl rfl rfl ?_
      refine o_nil ?_
      refine q_then ?_
      refine c_seq ?_
      refine c_cond (b := decide ((k : Int) < (l.length : Int))) rfl (fun hc15 => ?_) (fun hc15 => ?_)
      · simp only [decide_eq_true_eq] at hc15
        refine c_skip ?_
        refine q_then ?_
        refine c_seq ?_
        refine c_block ?_
        refine c_seq ?_
        refine c_region ?_
        refine o_pure (p_indexAddr (L := l) (T := tInt) (i := (k : Int)) rfl rfl (rd_base (i := 5) rfl hl) Try.underlying30 sz3 (by omega) (by omega)) rfl rfl rfl ?_
        refine o_pure (p_loadE1 (i := k) (T := tInt) (L := l) (v := .int .i64 (l[k])) rfl (rd_base (i := 5) rfl hl) (by first | assumption | omega) sh3 rfl) rfl rfl rfl ?_
        refine o_pure (p_assign (v := .int .i64 (l[k])) rfl) rfl rfl rfl ?_
        refine o_nil ?_
        refine q_then ?_
        refine c_seq ?_
        refine c_region ?_
        refine o_pure (p_move (v := .pointer (some ⟨B5, 0, none⟩)) rfl) rfl rfl rfl ?_
        refine o_pure (p_move (v := .int .i64 (l[k])) rfl) rfl rfl rfl ?_
        refine o_callX (pre := [box B5 [.slice acc_0 cc.young.length ccc_0, .int .i64 cc.first, .slice acc_1 cc.old.length ccc_1, .int .i64 cc.second] 131, own tInt Scc_0 acc_0 ccc_0 cc.young, own tInt Scc_1 acc_1 ccc_1 cc.old]) (R := [box B2 [.int .i64 0, .int .i64 0, .slice none 0 0, .slice none 0 0] 58, box B1 [.int .i64 h.first, .int .i64 h.second, .slice ah_0 h.young.length ch_0, .slice ah_1 h.old.length ch_1] 58, base w0]) rfl (stouch_ok cc B5 acc_0 ccc_0 Scc_0 acc_1 ccc_1 Scc_1 (l[k]) (by first | assumption | exact hI.ok | omega)) hf65 rfl (fun _ _ => trivial) rfl ?_
        rintro ⟨a16, c17, S18, a19, c20, S21, a22, c23, S24⟩
        refine o_asH (H' := [box B5 [.slice a16 (((Seg.touch cc (l[k])).1).young).length c17, .int .i64 (((Seg.touch cc (l[k])).1).first), .slice a19 (((Seg.touch cc (l[k])).1).old).length c20, .int .i64 (((Seg.touch cc (l[k])).1).second)] 131, own tInt S18 a16 c17 (((Seg.touch cc (l[k])).1).young), own tInt S21 a19 c20 (((Seg.touch cc (l[k])).1).old), own tInt S24 a22 c23 ((Seg.touch cc (l[k])).2.2), box B2 [.int .i64 0, .int .i64 0, .slice none 0 0, .slice none 0 0] 58, box B1 [.int .i64 h.first, .int .i64 h.second, .slice ah_0 h.young.length ch_0, .slice ah_1 h.old.length ch_1] 58, base w0]) rfl ?_
        refine o_pure (p_move (v := .tuple #[.bool ((Seg.touch cc (l[k])).2.1), .slice a22 ((Seg.touch cc (l[k])).2.2).length c23]) rfl) rfl rfl rfl ?_
        refine o_pure (p_extract (vs := [.bool ((Seg.touch cc (l[k])).2.1), .slice a22 ((Seg.touch cc (l[k])).2.2).length c23]) (v := .bool ((Seg.touch cc (l[k])).2.1)) rfl rfl) rfl rfl rfl ?_
        refine o_pure (p_extract (vs := [.bool ((Seg.touch cc (l[k])).2.1), .slice a22 ((Seg.touch cc (l[k])).2.2).length c23]) (v := .slice a22 ((Seg.touch cc (l[k])).2.2).length c23) rfl rfl) rfl rfl rfl ?_
        refine o_pure (p_assign (v := .bool ((Seg.touch cc (l[k])).2.1)) rfl) rfl rfl rfl ?_
        refine o_pure (p_assign (v := .slice a22 ((Seg.touch cc (l[k])).2.2).length c23) rfl) rfl rfl rfl ?_
        refine o_nil ?_
        refine q_then ?_
        refine c_seq ?_
        refine c_region ?_
        refine o_pure (p_move (v := .bool ((Seg.touch cc (l[k])).2.1)) rfl) rfl rfl rfl ?_
        refine o_nil ?_
        refine q_then ?_
        refine c_cond (b := ((Seg.touch cc (l[k])).2.1)) rfl (fun hc28 => ?_) (fun hc28 => ?_)
        · skip
          refine c_region ?_
          refine o_pure (p_move (v := .int .i64 hits) rfl) rfl rfl rfl ?_
          refine o_pure (p_addb (p := hits) (q := 1) rfl rfl (by omega)) rfl rfl rfl ?_
          refine o_pure (p_assign (v := .int .i64 (hits + 1)) rfl) rfl rfl rfl ?_
          refine o_nil ?_
          refine q_block_normal (q_then ?_)
          refine c_region ?_
          refine o_pure (p_addb (p := (k : Int)) (q := 1) rfl rfl (by omega)) rfl rfl rfl ?_
          refine o_pure (p_move (v := .int .i64 ((k : Int) + 1)) rfl) rfl rfl rfl ?_
          refine o_nil ?_
          refine q_round hK14 ((hits + 1), k + 1, ((Seg.touch cc (l[k])).1), a16, c17, S18, a19, c20, S21) ?_ ?_ ?_ ?_
          · clear hK14
            first | exact hI.hit (by omega) (by assumption) | exact hI.miss (by omega) (by assumption)
          · (try dsimp only); omega
          · exact Sub.cons rfl (Sub.cons rfl (Sub.cons rfl (Sub.cons rfl (Sub.cons rfl (Sub.cons rfl (Sub.nil _))))))
          · exact fun _ hw => HeapIs.pick hw [0, 1, 2, 4, 5, 6] (by decide) rfl
        · skip
          refine c_skip ?_
          refine q_block_normal (q_then ?_)
          refine c_region ?_
          refine o_pure (p_addb (p := (k : Int)) (q := 1) rfl rfl (by omega)) rfl rfl rfl ?_
          refine o_pure (p_move (v := .int .i64 ((k : Int) + 1)) rfl) rfl rfl rfl ?_
          refine o_nil ?_
          refine q_round hK14 (hits, k + 1, ((Seg.touch cc (l[k])).1), a16, c17, S18, a19, c20, S21) ?_ ?_ ?_ ?_
          · clear hK14
            first | exact hI.hit (by omega) (by assumption) | exact hI.miss (by omega) (by assumption)
          · (try dsimp only); omega
          · exact Sub.cons rfl (Sub.cons rfl (Sub.cons rfl (Sub.cons rfl (Sub.cons rfl (Sub.cons rfl (Sub.nil _))))))
          · exact fun _ hw => HeapIs.pick hw [0, 1, 2, 4, 5, 6] (by decide) rfl
      · simp only [decide_eq_false_iff_not, Int.not_lt] at hc15
        refine c_exit ?_
        refine q_then_exit (q_then_exit (q_block_exit (q_then ?_)))
        refine c_seq ?_
        refine c_region ?_
        refine o_pure (p_move (v := .pointer (some ⟨B5, 0, none⟩)) rfl) rfl rfl rfl ?_
        refine o_callX (pre := [box B5 [.slice acc_0 cc.young.length ccc_0, .int .i64 cc.first, .slice acc_1 cc.old.length ccc_1, .int .i64 cc.second] 131, own tInt Scc_0 acc_0 ccc_0 cc.young, own tInt Scc_1 acc_1 ccc_1 cc.old]) (R := [box B2 [.int .i64 0, .int .i64 0, .slice none 0 0, .slice none 0 0] 58, box B1 [.int .i64 h.first, .int .i64 h.second, .slice ah_0 h.young.length ch_0, .slice ah_1 h.old.length ch_1] 58, base w0]) rfl (shalls_ok cc B5 acc_0 ccc_0 Scc_0 acc_1 ccc_1 Scc_1) hf66 rfl (fun _ _ => trivial) rfl ?_
        rintro ⟨a29, c30, S31, a32, c33, S34⟩
        refine o_asH (H' := [own tInt S31 a29 c30 cc.young, own tInt S34 a32 c33 cc.old, box B2 [.int .i64 0, .int .i64 0, .slice none 0 0, .slice none 0 0] 58, box B1 [.int .i64 h.first, .int .i64 h.second, .slice ah_0 h.young.length ch_0, .slice ah_1 h.old.length ch_1] 58, base w0]) rfl ?_
        refine o_pure (p_move (v := .int .i64 hits) rfl) rfl rfl rfl ?_
        refine o_storeN (i := 2) (vs := [.int .i64 cc.first, .int .i64 cc.second, .slice a29 cc.young.length c30, .slice a32 cc.old.length c33]) (cs' := [.int .i64 cc.first, .int .i64 cc.second, .slice a29 cc.young.length c30, .slice a32 cc.old.length c33]) rfl rfl rfl sz58 rfl rfl rfl rfl ?_
        refine o_pure (p_assign (v := .int .i64 hits) rfl) rfl rfl rfl ?_
        refine o_pure (p_assign (v := .int .i64 0) rfl) rfl rfl rfl ?_
        refine o_nil ?_
        refine q_then ?_
        refine c_ret ?_
        obtain ⟨ha, hae⟩ : _ ∧ _ := by first | exact Seg.run1 (c := h) (l := l) (by assumption) | exact Seg.run2 (c := h) (l := l) (by assumption) (by assumption) | (obtain ⟨h1, h2⟩ := Seg.run3 (c := h) (l := l) (by assumption) (by assumption); rw [hI.done (by omega)] at h1; exact ⟨h1, h2⟩)
        have hr0 : (cc.first : Int) = ((Seg.run h l).1).first := by
          first | (simp only [ha, hae, Seg.zero]; done) | (rw [ha]; done)
        have hr1 : (cc.second : Int) = ((Seg.run h l).1).second := by
          first | (simp only [ha, hae, Seg.zero]; done) | (rw [ha]; done)
        have hr2 : (cc.young : List Int) = ((Seg.run h l).1).young := by
          first | (simp only [ha, hae, Seg.zero]; done) | (rw [ha]; done)
        have hr3 : (cc.old : List Int) = ((Seg.run h l).1).old := by
          first | (simp only [ha, hae, Seg.zero]; done) | (rw [ha]; done)
        have hr4 : (hits : Int) = ((Seg.run h l).2) := by
          first | (simp only [ha, hae, Seg.zero]; done) | (rw [ha]; done)
        have hr5 : (0 : Int) = (Seg.runErr h l) := by
          first | (simp only [ha, hae, Seg.zero]; done) | (rw [ha]; done)
        refine q_endM (p := (a29, c30, a32, c33)) (fun b => S31 b ∨ S34 b) (rt3 rfl (r_cell (i := 2) rfl rfl sh58 rfl) (r_tmp rfl) (r_tmp rfl)) (i := 4) rfl ?_ ?_ ?_
        · exact (by have hcc := congr (congr (congr (congr (congr (congrArg (fun (y0 : Int) (y1 : Int) (y2 : List Int) (y3 : List Int) (y4 : Int) (y5 : Int) => (.tuple #[.agg #[.int .i64 y0, .int .i64 y1, .slice a29 y2.length c30, .slice a32 y3.length c33], .int .i64 y4, .int .i64 y5] : Value)) hr0) hr1) hr2) hr3) hr4) hr5; exact hcc)
        · intro w hw b hb; rcases hb with hb | hb
          · exact hw.above (i := 4) (j := 0) (by decide) rfl rfl b hb
          · exact hw.above (i := 4) (j := 1) (by decide) rfl rfl b hb
        · intro w hw; exact ⟨Eq.mp (congrArg (fun y => SlR tInt _ w a29 c30 y) hr2) (SlR.mono (fun b hb => by simp [hb]) (SlO.toR (hw.at (i := 0) rfl).here)), Eq.mp (congrArg (fun y => SlR tInt _ w a32 c33 y) hr3) (SlR.mono (fun b hb => by simp [hb]) (SlO.toR (hw.at (i := 1) rfl).here))⟩
  · simp only [beq_eq_false_iff_ne, ne_eq] at hc3
    refine c_skip ?_
    refine q_then ?_
    refine c_seq ?_
    refine c_seq ?_
    refine c_region ?_
    refine o_pure (p_move (v := .int .i64 (Seg.check h)) rfl) rfl rfl rfl ?_
    refine o_pure (p_ne (p := (Seg.check h)) (q := 0) rfl rfl) rfl rfl rfl ?_
    refine o_nil ?_
    refine q_then ?_
    refine c_cond (b := ((Seg.check h) != 0)) rfl (fun hc37 => ?_) (fun hc37 => ?_)
    · simp only [bne_iff_ne, ne_eq] at hc37
      refine c_seq ?_
      refine c_region ?_
      refine o_pure (p_build (cells := [.int .i64 0, .int .i64 0, .slice none 0 0, .slice none 0 0]) fp58 ze58 rfl rfl) rfl rfl rfl ?_
      refine o_pure (p_move (v := .int .i64 (Seg.check h)) rfl) rfl rfl rfl ?_
      refine o_storeN (i := 0) (vs := [.int .i64 0, .int .i64 0, .slice none 0 0, .slice none 0 0]) (cs' := [.int .i64 0, .int .i64 0, .slice none 0 0, .slice none 0 0]) rfl rfl rfl sz58 rfl rfl rfl rfl ?_
      refine o_pure (p_assign (v := .int .i64 0) rfl) rfl rfl rfl ?_
      refine o_pure (p_assign (v := .int .i64 (Seg.check h)) rfl) rfl rfl rfl ?_
      refine o_nil ?_
      refine q_then ?_
      refine c_ret ?_
      refine q_then_ret ?_
      obtain ⟨ha, hae⟩ : _ ∧ _ := by first | exact Seg.run1 (c := h) (l := l) (by assumption) | exact Seg.run2 (c := h) (l := l) (by assumption) (by assumption) | (obtain ⟨h1, h2⟩ := Seg.run3 (c := h) (l := l) (by assumption) (by assumption); rw [hI.done (by omega)] at h1; exact ⟨h1, h2⟩)
      have hr0 : (0 : Int) = ((Seg.run h l).1).first := by
        first | (simp only [ha, hae, Seg.zero]; done) | (rw [ha]; done)
      have hr1 : (0 : Int) = ((Seg.run h l).1).second := by
        first | (simp only [ha, hae, Seg.zero]; done) | (rw [ha]; done)
      have hr2 : ([] : List Int) = ((Seg.run h l).1).young := by
        first | (simp only [ha, hae, Seg.zero]; done) | (rw [ha]; done)
      have hr3 : ([] : List Int) = ((Seg.run h l).1).old := by
        first | (simp only [ha, hae, Seg.zero]; done) | (rw [ha]; done)
      have hr4 : (0 : Int) = ((Seg.run h l).2) := by
        first | (simp only [ha, hae, Seg.zero]; done) | (rw [ha]; done)
      have hr5 : ((Seg.check h) : Int) = (Seg.runErr h l) := by
        first | (simp only [ha, hae, Seg.zero]; done) | (rw [ha]; done)
      refine q_endM (p := (none, 0, none, 0)) (fun _ => False) (rt3 rfl (r_cell (i := 0) rfl rfl sh58 rfl) (r_tmp rfl) (r_tmp rfl)) (i := 2) rfl ?_ ?_ ?_
      · exact (by have hcc := congr (congr (congr (congr (congr (congrArg (fun (y0 : Int) (y1 : Int) (y2 : List Int) (y3 : List Int) (y4 : Int) (y5 : Int) => (.tuple #[.agg #[.int .i64 y0, .int .i64 y1, .slice none y2.length 0, .slice none y3.length 0], .int .i64 y4, .int .i64 y5] : Value)) hr0) hr1) hr2) hr3) hr4) hr5; exact hcc)
      · intro w hw b hb; exact hb.elim
      · intro w hw; exact ⟨Eq.mp (congrArg (fun y => SlR tInt _ w none 0 y) hr2) (SlR.nil tInt _ w), Eq.mp (congrArg (fun y => SlR tInt _ w none 0 y) hr3) (SlR.nil tInt _ w)⟩
    · simp only [bne_eq_false_iff_eq] at hc37
      exfalso; first | contradiction | omega | simp_all

set_option maxHeartbeats 8000000 in
set_option maxRecDepth 100000 in
theorem skeys_ok (h : DHalls) (ah_0 : Option Addr) (ch_0 : Nat) (ah_1 : Option Addr) (ch_1 : Nat) : FnM Try.prog 35 [.agg #[.int .i64 h.first, .int .i64 h.second, .slice ah_0 h.young.length ch_0, .slice ah_1 h.old.length ch_1]] (fun w => Rd tInt w ah_0 ch_0 h.young ∧ Rd tInt w ah_1 ch_1 h.old) (Option Addr × Nat) (fun p => .tuple #[.slice p.1 (Seg.flat h).length p.2, .int .i64 (Seg.check h)]) (fun p S w => SlO tInt S w p.1 p.2 (Seg.flat h)) := by
  refine fnM (nt := 16) (F0 := [(0, .agg #[.int .i64 h.first, .int .i64 h.second, .slice ah_0 h.young.length ch_0, .slice ah_1 h.old.length ch_1])]) Try.func35 rfl Try.ntmps35 rfl rfl (fun w0 hpre => ?_)
  obtain ⟨hh_0, hh_1⟩ := hpre
  have hlhh_0 := hh_0.2.1
  have hlhh_1 := hh_1.2.1
  refine c_seq ?_
  refine c_region ?_
  refine o_box (v := .agg #[.int .i64 h.first, .int .i64 h.second, .slice ah_0 h.young.length ch_0, .slice ah_1 h.old.length ch_1]) rfl rfl (fun B1 => ?_)
  refine o_pure (p_assign (v := .slice none 0 0) rfl) rfl rfl rfl ?_
  refine o_pure (p_assign (v := .int .i64 0) rfl) rfl rfl rfl ?_
  refine o_nil ?_
  refine q_then ?_
  refine c_seq ?_
  refine c_seq ?_
  refine c_region ?_
  refine o_pure (p_load_agg (i := 0) (vs := [.int .i64 h.first, .int .i64 h.second, .slice ah_0 h.young.length ch_0, .slice ah_1 h.old.length ch_1]) rfl rfl sh58 rfl rfl) rfl rfl rfl ?_
  refine o_call0 (v := .int .i64 (Seg.check h)) rfl (scheck_ok h ah_0 ch_0 ah_1 ch_1) hf41 (fun w hw => ⟨(rd_base (i := 1) rfl hh_0) w hw, (rd_base (i := 1) rfl hh_1) w hw⟩) rfl ?_
  refine o_pure (p_assign (v := .int .i64 (Seg.check h)) rfl) rfl rfl rfl ?_
  refine o_nil ?_
  refine q_then ?_
  refine c_seq ?_
  refine c_region ?_
  refine o_pure (p_move (v := .int .i64 (Seg.check h)) rfl) rfl rfl rfl ?_
  refine o_pure (p_ne (p := (Seg.check h)) (q := 0) rfl rfl) rfl rfl rfl ?_
  refine o_nil ?_
  refine q_then ?_
  refine c_cond (b := ((Seg.check h) != 0)) rfl (fun hc2 => ?_) (fun hc2 => ?_)
  · simp only [bne_iff_ne, ne_eq] at hc2
    refine c_seq ?_
    refine c_region ?_
    refine o_pure (p_move (v := .int .i64 (Seg.check h)) rfl) rfl rfl rfl ?_
    refine o_pure (p_assign (v := .slice none 0 0) rfl) rfl rfl rfl ?_
    refine o_pure (p_assign (v := .int .i64 (Seg.check h)) rfl) rfl rfl rfl ?_
    refine o_nil ?_
    refine q_then ?_
    refine c_ret ?_
    refine q_then_ret ?_
    have hr0 : ([] : List Int) = (Seg.flat h) := by
      first | exact (Seg.flat1 (by assumption)).symm | exact (Seg.flat2 (by assumption)).symm | (symm; assumption) | rfl
    refine q_endM (p := (none, 0)) (fun _ => False) (rt2 rfl (r_tmp rfl) (r_tmp rfl)) (i := 1) rfl ?_ ?_ ?_
    · exact (by have hcc := congrArg (fun (y0 : List Int) => (.tuple #[.slice none y0.length 0, .int .i64 (Seg.check h)] : Value)) hr0; exact hcc)
    · intro w hw b hb; exact hb.elim
    · intro w hw; exact Eq.mp (congrArg (fun y => SlO tInt _ w none 0 y) hr0) (SlO.nil tInt w)
  · simp only [bne_eq_false_iff_eq] at hc2
    have hck := hc2
    have hok := Seg.ok_of hck
    have hfr := hok.first
    have hse := hok.second
    have hl1 := hok.len1
    have hl2 := hok.len2
    refine c_skip ?_
    refine q_then ?_
    refine c_seq ?_
    refine c_region ?_
    refine o_pure (p_fieldAddr (B := B1) (j := 0) (j' := 2) rfl fo58_2 rfl) rfl rfl rfl ?_
    refine o_pure (p_load (i := 0) (v := .slice ah_0 h.young.length ch_0) rfl rfl sh30 rfl) rfl rfl rfl ?_
    refine o_pure (p_fieldAddr (B := B1) (j := 0) (j' := 3) rfl fo58_3 rfl) rfl rfl rfl ?_
    refine o_pure (p_load (i := 0) (v := .slice ah_1 h.old.length ch_1) rfl rfl sh30 rfl) rfl rfl rfl ?_
    refine o_buildSlice (m := 2) (T := tHdr) (L := [(⟨ah_0, ch_0, h.young⟩ : Hdr), (⟨ah_1, ch_1, h.old⟩ : Hdr)]) (vs := [.slice ah_0 h.young.length ch_0, .slice ah_1 h.old.length ch_1]) rfl rfl rfl rfl Try.underlying133 sz30 (by decide) ze30 rfl (by decide) rfl (fun S3 a4 => ?_)
    refine o_callM rfl (concat2_ok h.young ah_0 ch_0 h.old ah_1 ch_1 a4 ([(⟨ah_0, ch_0, h.young⟩ : Hdr), (⟨ah_1, ch_1, h.old⟩ : Hdr)].length) (by first | omega | (simp only [List.length_append]; omega))) hf67 (fun w hw => ⟨(rd_own (i := 0) rfl) w hw, (rd_base (i := 2) rfl hh_0) w hw, (rd_base (i := 2) rfl hh_1) w hw⟩) rfl (fun _ _ _ _ ha hA => SlO.agree ha hA) ?_
    rintro ⟨a8, c9⟩ S6
    refine o_know (fun w hw => own_len (i := 0) (T := tInt) hw rfl) (fun hlr10 => ?_)
    refine o_pure (p_assign (v := .slice a8 (h.young ++ h.old).length c9) rfl) rfl rfl rfl ?_
    refine o_pure (p_assign (v := .int .i64 0) rfl) rfl rfl rfl ?_
    refine o_nil ?_
    refine q_then ?_
    refine c_ret ?_
    have hr0 : ((h.young ++ h.old) : List Int) = (Seg.flat h) := by
      first | exact (Seg.flat1 (by assumption)).symm | exact (Seg.flat2 (by assumption)).symm | (symm; assumption) | rfl
    have hr1 : (0 : Int) = (Seg.check h) := by
      first | exact (Seg.flat1 (by assumption)).symm | exact (Seg.flat2 (by assumption)).symm | (symm; assumption) | rfl
    refine q_endM (p := (a8, c9)) S6 (rt2 rfl (r_tmp rfl) (r_tmp rfl)) (i := 3) rfl ?_ ?_ ?_
    · exact (by have hcc := congr (congrArg (fun (y0 : List Int) (y1 : Int) => (.tuple #[.slice a8 y0.length c9, .int .i64 y1] : Value)) hr0) hr1; exact hcc)
    · exact fun w hw => hw.above (i := 3) (j := 0) (by decide) rfl rfl
    · intro w hw; exact Eq.mp (congrArg (fun y => SlO tInt _ w a8 c9 y) hr0) ((hw.at (i := 0) rfl).here)
end Go.Proofs.Ytkndekkacimekaa
