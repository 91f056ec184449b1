/- The walks, printed by a program from the translation and a specification. -/
import Derived.Test.YthbfdhphnofacabTfF
import Derived.Test.YthbfdhphnofacabTfLaw
import Derived.Test.YthbfdhphnofacabTfW5
namespace Go.Proofs.Ythbfdhphnofacab
open Go.Sx Go.RowKit
set_option maxHeartbeats 8000000 in
set_option maxRecDepth 100000 in
theorem access_ok (c : DClock) (ac_0 : Option Addr) (cc_0 : Nat) (key : Int) : FnM Try.prog 37 [.agg #[.int .i64 c.room, .int .i64 c.hand, .slice ac_0 c.frames.length cc_0], .int .i64 key] (fun w => Rd tFrame w ac_0 cc_0 c.frames) (Option Addr × Nat) (fun p => .tuple #[.agg #[.int .i64 (((Clock.access c key).1).room), .int .i64 (((Clock.access c key).1).hand), .slice p.1 (((Clock.access c key).1).frames).length p.2], .bool ((Clock.access c key).2.1), .int .i64 ((Clock.access c key).2.2), .int .i64 (Clock.accessErr c key)]) (fun p S w => SlO tFrame S w p.1 p.2 (((Clock.access c key).1).frames)) := by
  refine fnM (nt := 39) (F0 := [(0, .agg #[.int .i64 c.room, .int .i64 c.hand, .slice ac_0 c.frames.length cc_0]), (1, .int .i64 key)]) Try.func37 rfl Try.ntmps37 rfl rfl (fun w0 hpre => ?_)
  have hc_0 := hpre
  have hlhc_0 := hc_0.2.1
  refine c_seq ?_
  refine c_region ?_
  refine o_box (v := .agg #[.int .i64 c.room, .int .i64 c.hand, .slice ac_0 c.frames.length cc_0]) rfl rfl (fun B1 => ?_)
  refine o_alloc ze59 rfl (fun B2 => ?_)
  refine o_pure (p_assign (v := .bool false) rfl) rfl rfl rfl ?_
  refine o_pure (p_assign (v := .int .i64 0) rfl) rfl rfl rfl ?_
  refine o_pure (p_assign (v := .int .i64 0) rfl) rfl rfl rfl ?_
  refine o_nil ?_
  refine q_then ?_
  refine c_seq ?_
  refine c_region ?_
  refine o_pure (p_load_agg (i := 1) (vs := [.int .i64 c.room, .int .i64 c.hand, .slice ac_0 c.frames.length cc_0]) rfl rfl sh59 rfl rfl) rfl rfl rfl ?_
  refine o_call0 (v := .int .i64 (Clock.check c)) rfl (ccheck_ok c ac_0 cc_0) hf45 (fun w hw => (rd_base (i := 2) rfl hc_0) w hw) rfl ?_
  refine o_pure (p_assign (v := .int .i64 (Clock.check c)) rfl) rfl rfl rfl ?_
  refine o_nil ?_
  refine q_then ?_
  refine c_seq ?_
  refine c_seq ?_
  refine c_region ?_
  refine o_pure (p_move (v := .int .i64 (Clock.check c)) rfl) rfl rfl rfl ?_
  refine o_pure (p_eq (p := (Clock.check c)) (q := 0) rfl rfl) rfl rfl rfl ?_
  refine o_pure (p_move (v := .bool ((Clock.check c) == 0)) rfl) rfl rfl rfl ?_
  refine o_and (p := 20) 4 (!(Lru.okKey key)) ?_ ?_ ?_
  · intro hb3 hk
    simp only [beq_iff_eq] at hb3
    refine o_unguard 16 rfl rfl ?_
    refine o_pure (p_move (v := .int .i64 key) rfl) rfl rfl rfl ?_
    refine o_unguard 16 rfl rfl ?_
    refine o_call0 (v := .bool (Lru.okKey key)) rfl (key_ok key) hf79 (fun _ _ => trivial) rfl ?_
    refine o_unguard 16 rfl rfl ?_
    refine o_pure (p_not (b := (Lru.okKey key)) rfl) rfl rfl rfl ?_
    refine o_pure (p_pick_true (u := .bool (!(Lru.okKey key))) rfl rfl) rfl rfl rfl ?_
    exact o_sub (Sub.cons rfl (Sub.skip rfl (Sub.skip rfl (Sub.skip rfl (Sub.skip rfl (Sub.skip rfl (Sub.refl _))))))) hk
  · intro hb3 hk
    refine o_guard_no rfl 16 rfl rfl rfl rfl rfl ?_
    refine o_guard_no rfl 16 rfl rfl rfl rfl rfl ?_
    refine o_guard_no rfl 16 rfl rfl rfl rfl rfl ?_
    refine o_pure (p_pick_false (v := .bool false) rfl rfl) rfl rfl rfl ?_
    exact o_sub (Sub.cons rfl (Sub.skip rfl (Sub.skip rfl (Sub.skip rfl (Sub.skip rfl (Sub.skip rfl (Sub.refl _))))))) hk
  refine o_nil ?_
  refine q_then ?_
  refine c_cond (b := (((Clock.check c) == 0) && (!(Lru.okKey key)))) rfl (fun hc4 => ?_) (fun hc4 => ?_)
  · simp only [Bool.and_eq_true, beq_iff_eq, Bool.not_eq_true'] at hc4
    refine c_region ?_
    refine o_pure (p_assign (v := .int .i64 3) rfl) rfl rfl rfl ?_
    refine o_nil ?_
    refine q_then ?_
    refine c_seq ?_
    refine c_seq ?_
    refine c_region ?_
    refine o_pure (p_move (v := .int .i64 3) rfl) rfl rfl rfl ?_
    refine o_pure (p_ne (p := 3) (q := 0) rfl rfl) rfl rfl rfl ?_
    refine o_nil ?_
    refine q_then ?_
    refine c_true rfl ?_
    refine c_seq ?_
    refine c_region ?_
    refine o_pure (p_build (cells := [.int .i64 0, .int .i64 0, .slice none 0 0]) fp59 ze59 rfl rfl) rfl rfl rfl ?_
    refine o_pure (p_move (v := .int .i64 3) rfl) rfl rfl rfl ?_
    refine o_storeN (i := 0) (vs := [.int .i64 0, .int .i64 0, .slice none 0 0]) (cs' := [.int .i64 0, .int .i64 0, .slice none 0 0]) rfl rfl rfl sz59 rfl rfl rfl rfl ?_
    refine o_pure (p_assign (v := .bool false) rfl) rfl rfl rfl ?_
    refine o_pure (p_assign (v := .int .i64 0) rfl) rfl rfl rfl ?_
    refine o_pure (p_assign (v := .int .i64 3) rfl) rfl rfl rfl ?_
    refine o_nil ?_
    refine q_then ?_
    refine c_ret ?_
    refine q_then_ret ?_
    obtain ⟨ha, hae⟩ : _ ∧ _ := by first | exact Clock.acc_chk key (by assumption) | exact Clock.acc_key2 (c := c) (key := key) (by assumption) | exact Clock.acc_ok2 (c := c) (key := key) (by assumption) (by assumption)
    have hr0 : (0 : Int) = ((Clock.access c key).1).room := by
      simp only [ha, hae, Clock.zero]
    have hr1 : (0 : Int) = ((Clock.access c key).1).hand := by
      simp only [ha, hae, Clock.zero]
    have hr2 : ([] : List DFrame) = ((Clock.access c key).1).frames := by
      simp only [ha, hae, Clock.zero]
    have hr3 : (false : Bool) = ((Clock.access c key).2.1) := by
      simp only [ha, hae, Clock.zero]
    have hr4 : (0 : Int) = ((Clock.access c key).2.2) := by
      simp only [ha, hae, Clock.zero]
    have hr5 : (3 : Int) = (Clock.accessErr c key) := by
      simp only [ha, hae, Clock.zero]
    refine q_endM (p := (none, 0)) (fun _ => False) (rt4 rfl (r_cell (i := 0) rfl rfl sh59 rfl) (r_tmp rfl) (r_tmp rfl) (r_tmp rfl)) (i := 2) rfl ?_ ?_ ?_
    · exact (by have hcc := congr (congr (congr (congr (congr (congrArg (fun (y0 : Int) (y1 : Int) (y2 : List DFrame) (y3 : Bool) (y4 : Int) (y5 : Int) => (.tuple #[.agg #[.int .i64 y0, .int .i64 y1, .slice none y2.length 0], .bool y3, .int .i64 y4, .int .i64 y5] : Value)) hr0) hr1) hr2) hr3) hr4) hr5; exact hcc)
    · intro w hw b hb; exact hb.elim
    · intro w hw; exact Eq.mp (congrArg (fun y => SlO tFrame _ w none 0 y) hr2) (SlO.nil tFrame w)
  · simp only [Bool.and_eq_false_iff, beq_eq_false_iff_ne, ne_eq, Bool.not_eq_false'] at hc4
    refine c_skip ?_
    refine q_then ?_
    refine c_seq ?_
    refine c_seq ?_
    refine c_region ?_
    refine o_pure (p_move (v := .int .i64 (Clock.check c)) rfl) rfl rfl rfl ?_
    refine o_pure (p_ne (p := (Clock.check c)) (q := 0) rfl rfl) rfl rfl rfl ?_
    refine o_nil ?_
    refine q_then ?_
    refine c_cond (b := ((Clock.check c) != 0)) rfl (fun hc5 => ?_) (fun hc5 => ?_)
    · simp only [bne_iff_ne, ne_eq] at hc5
      refine c_seq ?_
      refine c_region ?_
      refine o_pure (p_build (cells := [.int .i64 0, .int .i64 0, .slice none 0 0]) fp59 ze59 rfl rfl) rfl rfl rfl ?_
      refine o_pure (p_move (v := .int .i64 (Clock.check c)) rfl) rfl rfl rfl ?_
      refine o_storeN (i := 0) (vs := [.int .i64 0, .int .i64 0, .slice none 0 0]) (cs' := [.int .i64 0, .int .i64 0, .slice none 0 0]) rfl rfl rfl sz59 rfl rfl rfl rfl ?_
      refine o_pure (p_assign (v := .bool false) rfl) rfl rfl rfl ?_
      refine o_pure (p_assign (v := .int .i64 0) rfl) rfl rfl rfl ?_
      refine o_pure (p_assign (v := .int .i64 (Clock.check c)) rfl) rfl rfl rfl ?_
      refine o_nil ?_
      refine q_then ?_
      refine c_ret ?_
      refine q_then_ret ?_
      obtain ⟨ha, hae⟩ : _ ∧ _ := by first | exact Clock.acc_chk key (by assumption) | exact Clock.acc_key2 (c := c) (key := key) (by assumption) | exact Clock.acc_ok2 (c := c) (key := key) (by assumption) (by assumption)
      have hr0 : (0 : Int) = ((Clock.access c key).1).room := by
        simp only [ha, hae, Clock.zero]
      have hr1 : (0 : Int) = ((Clock.access c key).1).hand := by
        simp only [ha, hae, Clock.zero]
      have hr2 : ([] : List DFrame) = ((Clock.access c key).1).frames := by
        simp only [ha, hae, Clock.zero]
      have hr3 : (false : Bool) = ((Clock.access c key).2.1) := by
        simp only [ha, hae, Clock.zero]
      have hr4 : (0 : Int) = ((Clock.access c key).2.2) := by
        simp only [ha, hae, Clock.zero]
      have hr5 : ((Clock.check c) : Int) = (Clock.accessErr c key) := by
        simp only [ha, hae, Clock.zero]
      refine q_endM (p := (none, 0)) (fun _ => False) (rt4 rfl (r_cell (i := 0) rfl rfl sh59 rfl) (r_tmp rfl) (r_tmp rfl) (r_tmp rfl)) (i := 2) rfl ?_ ?_ ?_
      · exact (by have hcc := congr (congr (congr (congr (congr (congrArg (fun (y0 : Int) (y1 : Int) (y2 : List DFrame) (y3 : Bool) (y4 : Int) (y5 : Int) => (.tuple #[.agg #[.int .i64 y0, .int .i64 y1, .slice none y2.length 0], .bool y3, .int .i64 y4, .int .i64 y5] : Value)) hr0) hr1) hr2) hr3) hr4) hr5; exact hcc)
      · intro w hw b hb; exact hb.elim
      · intro w hw; exact Eq.mp (congrArg (fun y => SlO tFrame _ w none 0 y) hr2) (SlO.nil tFrame w)
    · simp only [bne_eq_false_iff_eq] at hc5
      have hok := Clock.ok_of hc5
      have hroom := hok.room
      have hlen := hok.len
      refine c_skip ?_
      refine q_then ?_
      refine c_seq ?_
      refine c_region ?_
      refine o_pure (p_load_agg (i := 1) (vs := [.int .i64 c.room, .int .i64 c.hand, .slice ac_0 c.frames.length cc_0]) rfl rfl sh59 rfl rfl) rfl rfl rfl ?_
      refine o_callX (pre := []) (R := [box B2 [.int .i64 0, .int .i64 0, .slice none 0 0] 59, box B1 [.int .i64 c.room, .int .i64 c.hand, .slice ac_0 c.frames.length cc_0] 59, base w0]) rfl (owned_ok c ac_0 cc_0 (by omega)) hf80 rfl (fun w hw => (rdX (i := 2) (js := []) rfl (by decide) rfl (fun _ hA => slR_base hc_0 hA)) w hw) rfl ?_
      rintro ⟨B6, a7, c8, S9⟩
      refine o_asH (H' := [box B6 [.int .i64 c.room, .int .i64 c.hand, .slice a7 c.frames.length c8] 122, own tFrame S9 a7 c8 c.frames, box B2 [.int .i64 0, .int .i64 0, .slice none 0 0] 59, box B1 [.int .i64 c.room, .int .i64 c.hand, .slice ac_0 c.frames.length cc_0] 59, base w0]) rfl ?_
      refine o_pure (p_assign (v := .pointer (some ⟨B6, 0, none⟩)) rfl) rfl rfl rfl ?_
      refine o_nil ?_
      refine q_then ?_
      refine c_seq ?_
      refine c_region ?_
      refine o_pure (p_move (v := .pointer (some ⟨B6, 0, none⟩)) rfl) rfl rfl rfl ?_
      refine o_pure (p_move (v := .int .i64 key) rfl) rfl rfl rfl ?_
      refine o_callX (pre := [box B6 [.int .i64 c.room, .int .i64 c.hand, .slice a7 c.frames.length c8] 122, own tFrame S9 a7 c8 c.frames]) (R := [box B2 [.int .i64 0, .int .i64 0, .slice none 0 0] 59, box B1 [.int .i64 c.room, .int .i64 c.hand, .slice ac_0 c.frames.length cc_0] 59, base w0]) rfl (touch_ok c B6 a7 c8 S9 key (by first | assumption | exact hI.ok | omega)) hf81 rfl (fun _ _ => trivial) rfl ?_
      rintro ⟨a11, c12, S13⟩
      refine o_asH (H' := [box B6 [.int .i64 (((Clock.touch c key).1).room), .int .i64 (((Clock.touch c key).1).hand), .slice a11 (((Clock.touch c key).1).frames).length c12] 122, own tFrame S13 a11 c12 (((Clock.touch c key).1).frames), box B2 [.int .i64 0, .int .i64 0, .slice none 0 0] 59, box B1 [.int .i64 c.room, .int .i64 c.hand, .slice ac_0 c.frames.length cc_0] 59, base w0]) rfl ?_
      refine o_pure (p_move (v := .tuple #[.bool ((Clock.touch c key).2.1), .int .i64 ((Clock.touch c key).2.2)]) rfl) rfl rfl rfl ?_
      refine o_pure (p_extract (vs := [.bool ((Clock.touch c key).2.1), .int .i64 ((Clock.touch c key).2.2)]) (v := .bool ((Clock.touch c key).2.1)) rfl rfl) rfl rfl rfl ?_
      refine o_pure (p_extract (vs := [.bool ((Clock.touch c key).2.1), .int .i64 ((Clock.touch c key).2.2)]) (v := .int .i64 ((Clock.touch c key).2.2)) rfl rfl) rfl rfl rfl ?_
      refine o_pure (p_assign (v := .bool ((Clock.touch c key).2.1)) rfl) rfl rfl rfl ?_
      refine o_pure (p_assign (v := .int .i64 ((Clock.touch c key).2.2)) rfl) rfl rfl rfl ?_
      refine o_nil ?_
      refine q_then ?_
      refine c_seq ?_
      refine c_region ?_
      refine o_pure (p_move (v := .pointer (some ⟨B6, 0, none⟩)) rfl) rfl rfl rfl ?_
      refine o_pure (p_nilCheck rfl) rfl rfl rfl ?_
      refine o_pure (p_fieldAddr (B := B6) (j := 0) (j' := 0) rfl fo122_0 rfl) rfl rfl rfl ?_
      refine o_pure (p_load_agg (i := 0) (vs := [.int .i64 (((Clock.touch c key).1).room), .int .i64 (((Clock.touch c key).1).hand), .slice a11 (((Clock.touch c key).1).frames).length c12]) rfl rfl sh59 rfl rfl) rfl rfl rfl ?_
      refine o_pure (p_move (v := .bool ((Clock.touch c key).2.1)) rfl) rfl rfl rfl ?_
      refine o_pure (p_move (v := .int .i64 ((Clock.touch c key).2.2)) rfl) rfl rfl rfl ?_
      refine o_storeN (i := 2) (vs := [.int .i64 (((Clock.touch c key).1).room), .int .i64 (((Clock.touch c key).1).hand), .slice a11 (((Clock.touch c key).1).frames).length c12]) (cs' := [.int .i64 (((Clock.touch c key).1).room), .int .i64 (((Clock.touch c key).1).hand), .slice a11 (((Clock.touch c key).1).frames).length c12]) rfl rfl rfl sz59 rfl rfl rfl rfl ?_
      refine o_pure (p_assign (v := .bool ((Clock.touch c key).2.1)) rfl) rfl rfl rfl ?_
      refine o_pure (p_assign (v := .int .i64 ((Clock.touch c key).2.2)) rfl) rfl rfl rfl ?_
      refine o_pure (p_assign (v := .int .i64 0) rfl) rfl rfl rfl ?_
      refine o_nil ?_
      refine q_then ?_
      refine c_ret ?_
      obtain ⟨ha, hae⟩ : _ ∧ _ := by first | exact Clock.acc_chk key (by assumption) | exact Clock.acc_key2 (c := c) (key := key) (by assumption) | exact Clock.acc_ok2 (c := c) (key := key) (by assumption) (by assumption)
      have hr0 : (((Clock.touch c key).1).room : Int) = ((Clock.access c key).1).room := by
        simp only [ha, hae, Clock.zero]
      have hr1 : (((Clock.touch c key).1).hand : Int) = ((Clock.access c key).1).hand := by
        simp only [ha, hae, Clock.zero]
      have hr2 : (((Clock.touch c key).1).frames : List DFrame) = ((Clock.access c key).1).frames := by
        simp only [ha, hae, Clock.zero]
      have hr3 : (((Clock.touch c key).2.1) : Bool) = ((Clock.access c key).2.1) := by
        simp only [ha, hae, Clock.zero]
      have hr4 : (((Clock.touch c key).2.2) : Int) = ((Clock.access c key).2.2) := by
        simp only [ha, hae, Clock.zero]
      have hr5 : (0 : Int) = (Clock.accessErr c key) := by
        simp only [ha, hae, Clock.zero]
      refine q_endM (p := (a11, c12)) S13 (rt4 rfl (r_cell (i := 2) rfl rfl sh59 rfl) (r_tmp rfl) (r_tmp rfl) (r_tmp rfl)) (i := 4) rfl ?_ ?_ ?_
      · exact (by have hcc := congr (congr (congr (congr (congr (congrArg (fun (y0 : Int) (y1 : Int) (y2 : List DFrame) (y3 : Bool) (y4 : Int) (y5 : Int) => (.tuple #[.agg #[.int .i64 y0, .int .i64 y1, .slice a11 y2.length c12], .bool y3, .int .i64 y4, .int .i64 y5] : Value)) hr0) hr1) hr2) hr3) hr4) hr5; exact hcc)
      · exact fun w hw => hw.above (i := 4) (j := 1) (by decide) rfl rfl
      · intro w hw; exact Eq.mp (congrArg (fun y => SlO tFrame _ w a11 c12 y) hr2) ((hw.at (i := 1) rfl).here)
end Go.Proofs.Ythbfdhphnofacab
