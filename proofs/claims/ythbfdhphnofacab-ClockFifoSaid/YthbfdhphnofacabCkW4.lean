/- The walks, printed by a program from the translation and a specification. -/
import Derived.Test.YthbfdhphnofacabCkF
import Derived.Test.YthbfdhphnofacabCkLaw
import Derived.Test.YthbfdhphnofacabCkW3
namespace Go.Proofs.Ythbfdhphnofacab
open Go.Sx Go.RowKit
set_option maxHeartbeats 8000000 in
set_option maxRecDepth 100000 in
theorem access_ok (c : DClock) (ac_0 : Option Addr) (cc_0 : Nat) (key : Int) : FnM Try.prog 37 [.agg #[.int .i64 c.room, .int .i64 c.hand, .slice ac_0 c.frames.length cc_0], .int .i64 key] (fun w => Rd tFrame w ac_0 cc_0 c.frames) (Option Addr × Nat) (fun p => .tuple #[.agg #[.int .i64 (((Clock.access c key).1).room), .int .i64 (((Clock.access c key).1).hand), .slice p.1 (((Clock.access c key).1).frames).length p.2], .bool ((Clock.access c key).2.1), .int .i64 ((Clock.access c key).2.2), .int .i64 (Clock.accessErr c key)]) (fun p S w => SlO tFrame S w p.1 p.2 (((Clock.access c key).1).frames)) := by
  refine fnM (nt := 39) (F0 := [(0, .agg #[.int .i64 c.room, .int .i64 c.hand, .slice ac_0 c.frames.length cc_0]), (1, .int .i64 key)]) Try.func37 rfl Try.ntmps37 rfl rfl (fun w0 hpre => ?_)
  have hc_0 := hpre
  have hlhc_0 := hc_0.2.1
  refine c_seq ?_
  refine c_region ?_
  refine o_box (v := .agg #[.int .i64 c.room, .int .i64 c.hand, .slice ac_0 c.frames.length cc_0]) rfl rfl (fun B1 => ?_)
  refine o_alloc ze59 rfl (fun B2 => ?_)
  refine o_pure (p_assign (v := .bool false) rfl) rfl rfl rfl ?_
  refine o_pure (p_assign (v := .int .i64 0) rfl) rfl rfl rfl ?_
  refine o_pure (p_assign (v := .int .i64 0) rfl) rfl rfl rfl ?_
  refine o_nil ?_
  refine q_then ?_
  refine c_seq ?_
  refine c_region ?_
  refine o_pure (p_load_agg (i := 1) (vs := [.int .i64 c.room, .int .i64 c.hand, .slice ac_0 c.frames.length cc_0]) rfl rfl sh59 rfl rfl) rfl rfl rfl ?_
  refine o_call0 (v := .int .i64 (Clock.check c)) rfl (ccheck_ok c ac_0 cc_0) hf45 (fun w hw => (rd_base (i := 2) rfl hc_0) w hw) rfl ?_
  refine o_pure (p_assign (v := .int .i64 (Clock.check c)) rfl) rfl rfl rfl ?_
  refine o_nil ?_
  refine q_then ?_
  refine c_seq ?_
  refine c_seq ?_
  refine c_region ?_
  refine o_pure (p_move (v := .int .i64 (Clock.check c)) rfl) rfl rfl rfl ?_
  refine o_pure (p_eq (p := (Clock.check c)) (q := 0) rfl rfl) rfl rfl rfl ?_
  refine o_pure (p_move (v := .bool ((Clock.check c) == 0)) rfl) rfl rfl rfl ?_
  refine o_and (p := 20) 4 (!(Lru.okKey key)) ?_ ?_ ?_
  · intro hb3 hk
    simp only [beq_iff_eq] at hb3
    refine o_unguard 16 rfl rfl ?_
    refine o_pure (p_move (v := .int .i64 key) rfl) rfl rfl rfl ?_
    refine o_unguard 16 rfl rfl ?_
    refine o_call0 (v := .bool (Lru.okKey key)) rfl (key_ok key) hf79 (fun _ _ => trivial) rfl ?_
    refine o_unguard 16 rfl rfl ?_
    refine o_pure (p_not (b := (Lru.okKey key)) rfl) rfl rfl rfl ?_
    refine o_pure (p_pick_true (u := .bool (!(Lru.okKey key))) rfl rfl) rfl rfl rfl ?_
    exact o_sub (Sub.cons rfl (Sub.skip rfl (Sub.skip rfl (Sub.skip rfl (Sub.skip rfl (Sub.skip rfl (Sub.refl _))))))) hk
  · intro hb3 hk
    refine o_guard_no rfl 16 rfl rfl rfl rfl rfl ?_
    refine o_guard_no rfl 16 rfl rfl rfl rfl rfl ?_
    refine o_guard_no rfl 16 rfl rfl rfl rfl rfl ?_
    refine o_pure (p_pick_false (v := .bool false) rfl rfl) rfl rfl rfl ?_
    exact o_sub (Sub.cons rfl (Sub.skip rfl (Sub.skip rfl (Sub.skip rfl (Sub.skip rfl (Sub.skip rfl (Sub.refl _))))))) hk
  refine o_nil ?_
  refine q_then ?_
  refine c_cond (b := (((Clock.check c) == 0) && (!(Lru.okKey key)))) rfl (fun hc4 => ?_) (fun hc4 => ?_)
  · simp only [Bool.and_eq_true, beq_iff_eq, Bool.not_eq_true'] at hc4
    refine c_region ?_
    refine o_pure (p_assign (v := .int .i64 3) rfl) rfl rfl rfl ?_
    refine o_nil ?_
    refine q_then ?_
    refine c_seq ?_
    refine c_seq ?_
    refine c_region ?_
    refine o_pure (p_move (v := .int .i64 3) rfl) rfl rfl rfl ?_
    refine o_pure (p_ne (p := 3) (q := 0) rfl rfl) rfl rfl rfl ?_
    refine o_nil ?_
    refine q_then ?_
    refine c_true rfl ?_
    refine c_seq ?_
    refine c_region ?_
    refine o_pure (p_build (cells := [.int .i64 0, .int .i64 0, .slice none 0 0]) fp59 ze59 rfl rfl) rfl rfl rfl ?_
    refine o_pure (p_move (v := .int .i64 3) rfl) rfl rfl rfl ?_
    refine o_storeN (i := 0) (vs := [.int .i64 0, .int .i64 0, .slice none 0 0]) (cs' := [.int .i64 0, .int .i64 0, .slice none 0 0]) rfl rfl rfl sz59 rfl rfl rfl rfl ?_
    refine o_pure (p_assign (v := .bool false) rfl) rfl rfl rfl ?_
    refine o_pure (p_assign (v := .int .i64 0) rfl) rfl rfl rfl ?_
    refine o_pure (p_assign (v := .int .i64 3) rfl) rfl rfl rfl ?_
    refine o_nil ?_
    refine q_then ?_
    refine c_ret ?_
    refine q_then_ret ?_
    obtain ⟨ha, hae⟩ : _ ∧ _ := by first | exact Clock.acc_chk key (by assumption) | exact Clock.acc_key2 (c := c) (key := key) (by assumption) | exact Clock.acc_ok2 (c := c) (key := key) (by assumption) (by assumption)
    have hr0 : (0 : Int) = ((Clock.access c key).1).room := by
      simp only [ha, hae, Clock.zero]
    have hr1 : (0 : Int) = ((Clock.access c key).1).hand := by
      simp only [ha, hae, Clock.zero]
    have hr2 : ([] : List DFrame) = ((Clock.access c key).1).frames := by
      simp only [ha, hae, Clock.zero]
    have hr3 : (false : Bool) = ((Clock.access c key).2.1) := by
      simp only [ha, hae, Clock.zero]
    have hr4 : (0 : Int) = ((Clock.access c key).2.2) := by
      simp only [ha, hae, Clock.zero]
    have hr5 : (3 : Int) = (Clock.accessErr c key) := by
      simp only [ha, hae, Clock.zero]
    refine q_endM (p := (none, 0)) (fun _ => False) (rt4 rfl (r_cell (i := 0) rfl rfl sh59 rfl) (r_tmp rfl) (r_tmp rfl) (r_tmp rfl)) (i := 2) rfl ?_ ?_ ?_
    · exact (by have hcc := congr (congr (congr (congr (congr (congrArg (fun (y0 : Int) (y1 : Int) (y2 : List DFrame) (y3 : Bool) (y4 : Int) (y5 : Int) => (.tuple #[.agg #[.int .i64 y0, .int .i64 y1, .slice none y2.length 0], .bool y3, .int .i64 y4, .int .i64 y5] : Value)) hr0) hr1) hr2) hr3) hr4) hr5; exact hcc)
    · intro w hw b hb; exact hb.elim
    · intro w hw; exact Eq.mp (congrArg (fun y => SlO tFrame _ w none 0 y) hr2) (SlO.nil tFrame w)
  · simp only [Bool.and_eq_false_iff, beq_eq_false_iff_ne, ne_eq, Bool.not_eq_false'] at hc4
    refine c_skip ?_
    refine q_then ?_
    refine c_seq ?_
    refine c_seq ?_
    refine c_region ?_
    refine o_pure (p_move (v := .int .i64 (Clock.check c)) rfl) rfl rfl rfl ?_
    refine o_pure (p_ne (p := (Clock.check c)) (q := 0) rfl rfl) rfl rfl rfl ?_
    refine o_nil ?_
    refine q_then ?_
    refine c_cond (b := ((Clock.check c) != 0)) rfl (fun hc5 => ?_) (fun hc5 => ?_)
    · simp only [bne_iff_ne, ne_eq] at hc5
      refine c_seq ?_
      refine c_region ?_
      refine o_pure (p_build (cells := [.int .i64 0, .int .i64 0, .slice none 0 0]) fp59 ze59 rfl rfl) rfl rfl rfl ?_
      refine o_pure (p_move (v := .int .i64 (Clock.check c)) rfl) rfl rfl rfl ?_
      refine o_storeN (i := 0) (vs := [.int .i64 0, .int .i64 0, .slice none 0 0]) (cs' := [.int .i64 0, .int .i64 0, .slice none 0 0]) rfl rfl rfl sz59 rfl rfl rfl rfl ?_
      refine o_pure (p_assign (v := .bool false) rfl) rfl rfl rfl ?_
      refine o_pure (p_assign (v := .int .i64 0) rfl) rfl rfl rfl ?_
      refine o_pure (p_assign (v := .int .i64 (Clock.check c)) rfl) rfl rfl rfl ?_
      refine o_nil ?_
      refine q_then ?_
      refine c_ret ?_
      refine q_then_ret ?_
      obtain ⟨ha, hae⟩ : _ ∧ _ := by first | exact Clock.acc_chk key (by assumption) | exact Clock.acc_key2 (c := c) (key := key) (by assumption) | exact Clock.acc_ok2 (c := c) (key := key) (by assumption) (by assumption)
      have hr0 : (0 : Int) = ((Clock.access c key).1).room := by
        simp only [ha, hae, Clock.zero]
      have hr1 : (0 : Int) = ((Clock.access c key).1).hand := by
        simp only [ha, hae, Clock.zero]
      have hr2 : ([] : List DFrame) = ((Clock.access c key).1).frames := by
        simp only [ha, hae, Clock.zero]
      have hr3 : (false : Bool) = ((Clock.access c key).2.1) := by
        simp only [ha, hae, Clock.zero]
      have hr4 : (0 : Int) = ((Clock.access c key).2.2) := by
        simp only [ha, hae, Clock.zero]
      have hr5 : ((Clock.check c) : Int) = (Clock.accessErr c key) := by
        simp only [ha, hae, Clock.zero]
      refine q_endM (p := (none, 0)) (fun _ => False) (rt4 rfl (r_cell (i := 0) rfl rfl sh59 rfl) (r_tmp rfl) (r_tmp rfl) (r_tmp rfl)) (i := 2) rfl ?_ ?_ ?_
      · exact (by have hcc := congr (congr (congr (congr (congr (congrArg (fun (y0 : Int) (y1 : Int) (y2 : List DFrame) (y3 : Bool) (y4 : Int) (y5 : Int) => (.tuple #[.agg #[.int .i64 y0, .int .i64 y1, .slice none y2.length 0], .bool y3, .int .i64 y4, .int .i64 y5] : Value)) hr0) hr1) hr2) hr3) hr4) hr5; exact hcc)
      · intro w hw b hb; exact hb.elim
      · intro w hw; exact Eq.mp (congrArg (fun y => SlO tFrame _ w none 0 y) hr2) (SlO.nil tFrame w)
    · simp only [bne_eq_false_iff_eq] at hc5
      have hok := Clock.ok_of hc5
      have hroom := hok.room
      have hlen := hok.len
      refine c_skip ?_
      refine q_then ?_
      refine c_seq ?_
      refine c_region ?_
      refine o_pure (p_load_agg (i := 1) (vs := [.int .i64 c.room, .int .i64 c.hand, .slice ac_0 c.frames.length cc_0]) rfl rfl sh59 rfl rfl) rfl rfl rfl ?_
      refine o_callX (pre := []) (R := [box B2 [.int .i64 0, .int .i64 0, .slice none 0 0] 59, box B1 [.int .i64 c.room, .int .i64 c.hand, .slice ac_0 c.frames.length cc_0] 59, base w0]) rfl (owned_ok c ac_0 cc_0 (by omega)) hf80 rfl (fun w hw => (rdX (i := 2) (js := []) rfl (by decide) rfl (fun _ hA => slR_base hc_0 hA)) w hw) rfl ?_
      rintro ⟨B6, a7, c8, S9⟩
      refine o_asH (H' := [box B6 [.int .i64 c.room, .int .i64 c.hand, .slice a7 c.frames.length c8] 122, own tFrame S9 a7 c8 c.frames, box B2 [.int .i64 0, .int .i64 0, .slice none 0 0] 59, box B1 [.int .i64 c.room, .int .i64 c.hand, .slice ac_0 c.frames.length cc_0] 59, base w0]) rfl ?_
      refine o_pure (p_assign (v := .pointer (some ⟨B6, 0, none⟩)) rfl) rfl rfl rfl ?_
      refine o_nil ?_
      refine q_then ?_
      refine c_seq ?_
      refine c_region ?_
      refine o_pure (p_move (v := .pointer (some ⟨B6, 0, none⟩)) rfl) rfl rfl rfl ?_
      refine o_pure (p_move (v := .int .i64 key) rfl) rfl rfl rfl ?_
      refine o_callX (pre := [box B6 [.int .i64 c.room, .int .i64 c.hand, .slice a7 c.frames.length c8] 122, own tFrame S9 a7 c8 c.frames]) (R := [box B2 [.int .i64 0, .int .i64 0, .slice none 0 0] 59, box B1 [.int .i64 c.room, .int .i64 c.hand, .slice ac_0 c.frames.length cc_0] 59, base w0]) rfl (touch_ok c B6 a7 c8 S9 key (by first | assumption | exact hI.ok | omega)) hf81 rfl (fun _ _ => trivial) rfl ?_
      rintro ⟨a11, c12, S13⟩
      refine o_asH (H' := [box B6 [.int .i64 (((Clock.touch c key).1).room), .int .i64 (((Clock.touch c key).1).hand), .slice a11 (((Clock.touch c key).1).frames).length c12] 122, own tFrame S13 a11 c12 (((Clock.touch c key).1).frames), box B2 [.int .i64 0, .int .i64 0, .slice none 0 0] 59, box B1 [.int .i64 c.room, .int .i64 c.hand, .slice ac_0 c.frames.length cc_0] 59, base w0]) rfl ?_
      refine o_pure (p_move (v := .tuple #[.bool ((Clock.touch c key).2.1), .int .i64 ((Clock.touch c key).2.2)]) rfl) rfl rfl rfl ?_
      refine o_pure (p_extract (vs := [.bool ((Clock.touch c key).2.1), .int .i64 ((Clock.touch c key).2.2)]) (v := .bool ((Clock.touch c key).2.1)) rfl rfl) rfl rfl rfl ?_
      refine o_pure (p_extract (vs := [.bool ((Clock.touch c key).2.1), .int .i64 ((Clock.touch c key).2.2)]) (v := .int .i64 ((Clock.touch c key).2.2)) rfl rfl) rfl rfl rfl ?_
      refine o_pure (p_assign (v := .bool ((Clock.touch c key).2.1)) rfl) rfl rfl rfl ?_
      refine o_pure (p_assign (v := .int .i64 ((Clock.touch c key).2.2)) rfl) rfl rfl rfl ?_
      refine o_nil ?_
      refine q_then ?_
      refine c_seq ?_
      refine c_region ?_
      refine o_pure (p_move (v := .pointer (some ⟨B6, 0, none⟩)) rfl) rfl rfl rfl ?_
      refine o_pure (p_nilCheck rfl) rfl rfl rfl ?_
      refine o_pure (p_fieldAddr (B := B6) (j := 0) (j' := 0) rfl fo122_0 rfl) rfl rfl rfl ?_
      refine o_pure (p_load_agg (i := 0) (vs := [.int .i64 (((Clock.touch c key).1).room), .int .i64 (((Clock.touch c key).1).hand), .slice a11 (((Clock.touch c key).1).frames).length c12]) rfl rfl sh59 rfl rfl) rfl rfl rfl ?_
      refine o_pure (p_move (v := .bool ((Clock.touch c key).2.1)) rfl) rfl rfl rfl ?_
      refine o_pure (p_move (v := .int .i64 ((Clock.touch c key).2.2)) rfl) rfl rfl rfl ?_
      refine o_storeN (i := 2) (vs := [.int .i64 (((Clock.touch c key).1).room), .int .i64 (((Clock.touch c key).1).hand), .slice a11 (((Clock.touch c key).1).frames).length c12]) (cs' := [.int .i64 (((Clock.touch c key).1).room), .int .i64 (((Clock.touch c key).1).hand), .slice a11 (((Clock.touch c key).1).frames).length c12]) rfl rfl rfl sz59 rfl rfl rfl rfl ?_
      refine o_pure (p_assign (v := .bool ((Clock.touch c key).2.1)) rfl) rfl rfl rfl ?_
      refine o_pure (p_assign (v := .int .i64 ((Clock.touch c key).2.2)) rfl) rfl rfl rfl ?_
      refine o_pure (p_assign (v := .int .i64 0) rfl) rfl rfl rfl ?_
      refine o_nil ?_
      refine q_then ?_
      refine c_ret ?_
      obtain ⟨ha, hae⟩ : _ ∧ _ := by first | exact Clock.acc_chk key (by assumption) | exact Clock.acc_key2 (c := c) (key := key) (by assumption) | exact Clock.acc_ok2 (c := c) (key := key) (by assumption) (by assumption)
      have hr0 : (((Clock.touch c key).1).room : Int) = ((Clock.access c key).1).room := by
        simp only [ha, hae, Clock.zero]
      have hr1 : (((Clock.touch c key).1).hand : Int) = ((Clock.access c key).1).hand := by
        simp only [ha, hae, Clock.zero]
      have hr2 : (((Clock.touch c key).1).frames : List DFrame) = ((Clock.access c key).1).frames := by
        simp only [ha, hae, Clock.zero]
      have hr3 : (((Clock.touch c key).2.1) : Bool) = ((Clock.access c key).2.1) := by
        simp only [ha, hae, Clock.zero]
      have hr4 : (((Clock.touch c key).2.2) : Int) = ((Clock.access c key).2.2) := by
        simp only [ha, hae, Clock.zero]
      have hr5 : (0 : Int) = (Clock.accessErr c key) := by
        simp only [ha, hae, Clock.zero]
      refine q_endM (p := (a11, c12)) S13 (rt4 rfl (r_cell (i := 2) rfl rfl sh59 rfl) (r_tmp rfl) (r_tmp rfl) (r_tmp rfl)) (i := 4) rfl ?_ ?_ ?_
      · exact (by have hcc := congr (congr (congr (congr (congr (congrArg (fun (y0 : Int) (y1 : Int) (y2 : List DFrame) (y3 : Bool) (y4 : Int) (y5 : Int) => (.tuple #[.agg #[.int .i64 y0, .int .i64 y1, .slice a11 y2.length c12], .bool y3, .int .i64 y4, .int .i64 y5] : Value)) hr0) hr1) hr2) hr3) hr4) hr5; exact hcc)
      · exact fun w hw => hw.above (i := 4) (j := 1) (by decide) rfl rfl
      · intro w hw; exact Eq.mp (congrArg (fun y => SlO tFrame _ w a11 c12 y) hr2) ((hw.at (i := 1) rfl).here)

set_option maxHeartbeats 8000000 in
set_option maxRecDepth 100000 in
theorem run_ok (c : DClock) (ac_0 : Option Addr) (cc_0 : Nat) (l : List Int) (al : Option Addr) (cl : Nat) : FnM Try.prog 38 [.agg #[.int .i64 c.room, .int .i64 c.hand, .slice ac_0 c.frames.length cc_0], .slice al l.length cl] (fun w => Rd tFrame w ac_0 cc_0 c.frames ∧ Rd tInt w al cl l) (Option Addr × Nat) (fun p => .tuple #[.agg #[.int .i64 (((Clock.run c l).1).room), .int .i64 (((Clock.run c l).1).hand), .slice p.1 (((Clock.run c l).1).frames).length p.2], .int .i64 ((Clock.run c l).2), .int .i64 (Clock.runErr c l)]) (fun p S w => SlO tFrame S w p.1 p.2 (((Clock.run c l).1).frames)) := by
  refine fnM (nt := 47) (F0 := [(0, .agg #[.int .i64 c.room, .int .i64 c.hand, .slice ac_0 c.frames.length cc_0]), (1, .slice al l.length cl)]) Try.func38 rfl Try.ntmps38 rfl rfl (fun w0 hpre => ?_)
  obtain ⟨hc_0, hl⟩ := hpre
  have hlhc_0 := hc_0.2.1
  have hlhl := hl.2.1
  refine c_seq ?_
  refine c_region ?_
  refine o_box (v := .agg #[.int .i64 c.room, .int .i64 c.hand, .slice ac_0 c.frames.length cc_0]) rfl rfl (fun B1 => ?_)
  refine o_alloc ze59 rfl (fun B2 => ?_)
  refine o_pure (p_assign (v := .int .i64 0) rfl) rfl rfl rfl ?_
  refine o_pure (p_assign (v := .int .i64 0) rfl) rfl rfl rfl ?_
  refine o_nil ?_
  refine q_then ?_
  refine c_seq ?_
  refine c_region ?_
  refine o_pure (p_load_agg (i := 1) (vs := [.int .i64 c.room, .int .i64 c.hand, .slice ac_0 c.frames.length cc_0]) rfl rfl sh59 rfl rfl) rfl rfl rfl ?_
  refine o_call0 (v := .int .i64 (Clock.check c)) rfl (ccheck_ok c ac_0 cc_0) hf45 (fun w hw => (rd_base (i := 2) rfl hc_0) w hw) rfl ?_
  refine o_pure (p_assign (v := .int .i64 (Clock.check c)) rfl) rfl rfl rfl ?_
  refine o_nil ?_
  refine q_then ?_
  refine c_seq ?_
  refine c_seq ?_
  refine c_region ?_
  refine o_pure (p_move (v := .int .i64 (Clock.check c)) rfl) rfl rfl rfl ?_
  refine o_pure (p_eq (p := (Clock.check c)) (q := 0) rfl rfl) rfl rfl rfl ?_
  refine o_nil ?_
  refine q_then ?_
  refine c_cond (b := ((Clock.check c) == 0)) rfl (fun hc3 => ?_) (fun hc3 => ?_)
  · simp only [beq_iff_eq] at hc3
    have hok := Clock.ok_of hc3
    have hroom := hok.room
    have hlen := hok.len
    refine c_region ?_
    refine o_pure (p_move (v := .slice al l.length cl) rfl) rfl rfl rfl ?_
    refine o_call0 (v := .int .i64 (Lru.trace l)) rfl (checkTrace_ok l al cl) hf62 (fun w hw => (rd_base (i := 2) rfl hl) w hw) rfl ?_
    refine o_pure (p_assign (v := .int .i64 (Lru.trace l)) rfl) rfl rfl rfl ?_
    refine o_nil ?_
    refine q_then ?_
    refine c_seq ?_
    refine c_seq ?_
    refine c_region ?_
    refine o_pure (p_move (v := .int .i64 (Lru.trace l)) rfl) rfl rfl rfl ?_
    refine o_pure (p_ne (p := (Lru.trace l)) (q := 0) rfl rfl) rfl rfl rfl ?_
    refine o_nil ?_
    refine q_then ?_
    refine c_cond (b := ((Lru.trace l) != 0)) rfl (fun hc4 => ?_) (fun hc4 => ?_)
    · simp only [bne_iff_ne, ne_eq] at hc4
      refine c_seq ?_
      refine c_region ?_
      refine o_pure (p_build (cells := [.int .i64 0, .int .i64 0, .slice none 0 0]) fp59 ze59 rfl rfl) rfl rfl rfl ?_
      refine o_pure (p_move (v := .int .i64 (Lru.trace l)) rfl) rfl rfl rfl ?_
      refine o_storeN (i := 0) (vs := [.int .i64 0, .int .i64 0, .slice none 0 0]) (cs' := [.int .i64 0, .int .i64 0, .slice none 0 0]) rfl rfl rfl sz59 rfl rfl rfl rfl ?_
      refine o_pure (p_assign (v := .int .i64 0) rfl) rfl rfl rfl ?_
      refine o_pure (p_assign (v := .int .i64 (Lru.trace l)) rfl) rfl rfl rfl ?_
      refine o_nil ?_
      refine q_then ?_
      refine c_ret ?_
      refine q_then_ret ?_
      obtain ⟨ha, hae⟩ : _ ∧ _ := by first | exact Clock.run_chk l (by assumption) | exact Clock.run_tr (c := c) (l := l) (by assumption) (by assumption) | (obtain ⟨h1, h2⟩ := Clock.run_ok (c := c) (l := l) (by assumption) (by assumption); rw [hI.done (by omega)] at h1; exact ⟨h1, h2⟩)
      have hr0 : (0 : Int) = ((Clock.run c l).1).room := by
        simp only [ha, hae, Clock.zero]
      have hr1 : (0 : Int) = ((Clock.run c l).1).hand := by
        simp only [ha, hae, Clock.zero]
      have hr2 : ([] : List DFrame) = ((Clock.run c l).1).frames := by
        simp only [ha, hae, Clock.zero]
      have hr3 : (0 : Int) = ((Clock.run c l).2) := by
        simp only [ha, hae, Clock.zero]
      have hr4 : ((Lru.trace l) : Int) = (Clock.runErr c l) := by
        simp only [ha, hae, Clock.zero]
      refine q_endM (p := (none, 0)) (fun _ => False) (rt3 rfl (r_cell (i := 0) rfl rfl sh59 rfl) (r_tmp rfl) (r_tmp rfl)) (i := 2) rfl ?_ ?_ ?_
      · exact (by have hcc := congr (congr (congr (congr (congrArg (fun (y0 : Int) (y1 : Int) (y2 : List DFrame) (y3 : Int) (y4 : Int) => (.tuple #[.agg #[.int .i64 y0, .int .i64 y1, .slice none y2.length 0], .int .i64 y3, .int .i64 y4] : Value)) hr0) hr1) hr2) hr3) hr4; exact hcc)
      · intro w hw b hb; exact hb.elim
      · intro w hw; exact Eq.mp (congrArg (fun y => SlO tFrame _ w none 0 y) hr2) (SlO.nil tFrame w)
    · simp only [bne_eq_false_iff_eq] at hc4
      refine c_skip ?_
      refine q_then ?_
      refine c_seq ?_
      refine c_region ?_
      refine o_pure (p_load_agg (i := 1) (vs := [.int .i64 c.room, .int .i64 c.hand, .slice ac_0 c.frames.length cc_0]) rfl rfl sh59 rfl rfl) rfl rfl rfl ?_
      refine o_callX (pre := []) (R := [box B2 [.int .i64 0, .int .i64 0, .slice none 0 0] 59, box B1 [.int .i64 c.room, .int .i64 c.hand, .slice ac_0 c.frames.length cc_0] 59, base w0]) rfl (owned_ok c ac_0 cc_0 (by omega)) hf80 rfl (fun w hw => (rdX (i := 2) (js := []) rfl (by decide) rfl (fun _ hA => slR_base hc_0 hA)) w hw) rfl ?_
      rintro ⟨B5, a6, c7, S8⟩
      refine o_asH (H' := [box B5 [.int .i64 c.room, .int .i64 c.hand, .slice a6 c.frames.length c7] 122, own tFrame S8 a6 c7 c.frames, box B2 [.int .i64 0, .int .i64 0, .slice none 0 0] 59, box B1 [.int .i64 c.room, .int .i64 c.hand, .slice ac_0 c.frames.length cc_0] 59, base w0]) rfl ?_
      refine o_pure (p_assign (v := .pointer (some ⟨B5, 0, none⟩)) rfl) rfl rfl rfl ?_
      refine o_pure (p_assign (v := .int .i64 0) rfl) rfl rfl rfl ?_
      refine o_nil ?_
      refine q_then ?_
      refine c_seq ?_
      refine c_seq ?_
      refine c_region ?_
      refine o_pure (p_move (v := .slice al l.length cl) rfl) rfl rfl rfl ?_
      refine o_pure (p_len_slice (len := l.length) rfl rfl Try.underlying22) rfl rfl rfl ?_
      refine o_pure (p_move (v := .int .i64 0) rfl) rfl rfl rfl ?_
      refine o_nil ?_
      refine q_then ?_
      refine c_block ?_
      refine c_loop (St := Int × Nat × DClock × Option Addr × Nat × (Nat → Prop))
        (fun ⟨hits, k, cc, acc_0, ccc_0, Scc_0⟩ => [(4, .pointer (some ⟨B2, 0, none⟩)), (8, .pointer (some ⟨B5, 0, none⟩)), (9, .int .i64 hits), (26, .slice al l.length cl), (27, .int .i64 (l.length : Int)), (28, .int .i64 (k : Int))])
        (fun ⟨hits, k, cc, acc_0, ccc_0, Scc_0⟩ => [box B5 [.int .i64 cc.room, .int .i64 cc.hand, .slice acc_0 cc.frames.length ccc_0] 122, own tFrame Scc_0 acc_0 ccc_0 cc.frames, box B2 [.int .i64 0, .int .i64 0, .slice none 0 0] 59, box B1 [.int .i64 c.room, .int .i64 c.hand, .slice ac_0 c.frames.length cc_0] 59, base w0])
        (fun ⟨hits, k, cc, acc_0, ccc_0, Scc_0⟩ => Clock.RInv c cc l hits k)
        (fun ⟨hits, k, cc, acc_0, ccc_0, Scc_0⟩ => l.length - k)
        (0, 0, c, a6, c7, S8) ?_ (Sub.cons rfl (Sub.cons rfl (Sub.cons rfl (Sub.cons rfl (Sub.cons rfl (Sub.cons rfl (Sub.nil _))))))) (fun _ hw => hw) ?_
      · exact Clock.RInv.start hok l
      rintro ⟨hits, k, cc, acc_0, ccc_0, Scc_0⟩ hI K hK10
      have hn0 := hI.n0
      have hn1 := hI.n1
      show SC _ _ Try.prog 47 w0 _ _ [(4, .pointer (some ⟨B2, 0, none⟩)), (8, .pointer (some ⟨B5, 0, none⟩)), (9, .int .i64 hits), (26, .slice al l.length cl), (27, .int .i64 (l.length : Int)), (28, .int .i64 (k : Int))] [box B5 [.int .i64 cc.room, .int .i64 cc.hand, .slice acc_0 cc.frames.length ccc_0] 122, own tFrame Scc_0 acc_0 ccc_0 cc.frames, box B2 [.int .i64 0, .int .i64 0, .slice none 0 0] 59, box B1 [.int .i64 c.room, .int .i64 c.hand, .slice ac_0 c.frames.length cc_0] 59, base w0]
      refine c_seq ?_
      refine c_region ?_
      refine o_pure (p_lt (p := (k : Int)) (q := (l.length : Int)) rfl rfl) rfl rfl rfl ?_
      refine o_nil ?_
      refine q_then ?_
      refine c_seq ?_
      refine c_cond (b := decide ((k : Int) < (l.length : Int))) rfl (fun hc11 => ?_) (fun hc11 => ?_)
      · simp only [decide_eq_true_eq] at hc11
        refine c_skip ?_
        refine q_then ?_
        refine c_seq ?_
        refine c_block ?_
        refine c_seq ?_
        refine c_region ?_
        refine o_pure (p_indexAddr (L := l) (T := tInt) (i := (k : Int)) rfl rfl (rd_base (i := 4) rfl hl) Try.underlying22 sz3 (by omega) (by omega)) rfl rfl rfl ?_
        refine o_pure (p_loadE1 (i := k) (T := tInt) (L := l) (v := .int .i64 (l[k])) rfl (rd_base (i := 4) rfl hl) (by first | assumption | omega) sh3 rfl) rfl rfl rfl ?_
        refine o_pure (p_assign (v := .int .i64 (l[k])) rfl) rfl rfl rfl ?_
        refine o_nil ?_
        refine q_then ?_
        refine c_seq ?_
        refine c_region ?_
        refine o_pure (p_move (v := .pointer (some ⟨B5, 0, none⟩)) rfl) rfl rfl rfl ?_
        refine o_pure (p_move (v := .int .i64 (l[k])) rfl) rfl rfl rfl ?_
        refine o_callX (pre := [box B5 [.int .i64 cc.room, .int .i64 cc.hand, .slice acc_0 cc.frames.length ccc_0] 122, own tFrame Scc_0 acc_0 ccc_0 cc.frames]) (R := [box B2 [.int .i64 0, .int .i64 0, .slice none 0 0] 59, box B1 [.int .i64 c.room, .int .i64 c.hand, .slice ac_0 c.frames.length cc_0] 59, base w0]) rfl (touch_ok cc B5 acc_0 ccc_0 Scc_0 (l[k]) (by first | assumption | exact hI.ok | omega)) hf81 rfl (fun _ _ => trivial) rfl ?_
        rintro ⟨a12, c13, S14⟩
        refine o_asH (H' := [box B5 [.int .i64 (((Clock.touch cc (l[k])).1).room), .int .i64 (((Clock.touch cc (l[k])).1).hand), .slice a12 (((Clock.touch cc (l[k])).1).frames).length c13] 122, own tFrame S14 a12 c13 (((Clock.touch cc (l[k])).1).frames), box B2 [.int .i64 0, .int .i64 0, .slice none 0 0] 59, box B1 [.int .i64 c.room, .int .i64 c.hand, .slice ac_0 c.frames.length cc_0] 59, base w0]) rfl ?_
        refine o_pure (p_move (v := .tuple #[.bool ((Clock.touch cc (l[k])).2.1), .int .i64 ((Clock.touch cc (l[k])).2.2)]) rfl) rfl rfl rfl ?_
        refine o_pure (p_extract (vs := [.bool ((Clock.touch cc (l[k])).2.1), .int .i64 ((Clock.touch cc (l[k])).2.2)]) (v := .bool ((Clock.touch cc (l[k])).2.1)) rfl rfl) rfl rfl rfl ?_
        refine o_pure (p_extract (vs := [.bool ((Clock.touch cc (l[k])).2.1), .int .i64 ((Clock.touch cc (l[k])).2.2)]) (v := .int .i64 ((Clock.touch cc (l[k])).2.2)) rfl rfl) rfl rfl rfl ?_
        refine o_pure (p_assign (v := .bool ((Clock.touch cc (l[k])).2.1)) rfl) rfl rfl rfl ?_
        refine o_pure (p_assign (v := .int .i64 ((Clock.touch cc (l[k])).2.2)) rfl) rfl rfl rfl ?_
        refine o_nil ?_
        refine q_then ?_
        refine c_seq ?_
        refine c_region ?_
        refine o_pure (p_move (v := .bool ((Clock.touch cc (l[k])).2.1)) rfl) rfl rfl rfl ?_
        refine o_nil ?_
        refine q_then ?_
        refine c_cond (b := ((Clock.touch cc (l[k])).2.1)) rfl (fun hc16 => ?_) (fun hc16 => ?_)
        · skip
          refine c_region ?_
          refine o_pure (p_move (v := .int .i64 hits) rfl) rfl rfl rfl ?_
          refine o_pure (p_addb (p := hits) (q := 1) rfl rfl (by omega)) rfl rfl rfl ?_
          refine o_pure (p_assign (v := .int .i64 (hits + 1)) rfl) rfl rfl rfl ?_
          refine o_nil ?_
          refine q_block_normal (q_then ?_)
          refine c_region ?_
          refine o_pure (p_addb (p := (k : Int)) (q := 1) rfl rfl (by omega)) rfl rfl rfl ?_
          refine o_pure (p_move (v := .int .i64 ((k : Int) + 1)) rfl) rfl rfl rfl ?_
          refine o_nil ?_
          refine q_round hK10 ((hits + 1), k + 1, ((Clock.touch cc (l[k])).1), a12, c13, S14) ?_ ?_ ?_ ?_
          · clear hK10
            first | exact hI.hit (by omega) (by assumption) | exact hI.miss (by omega) (by assumption)
          · (try dsimp only); omega
          · exact Sub.cons rfl (Sub.cons rfl (Sub.cons rfl (Sub.cons rfl (Sub.cons rfl (Sub.cons rfl (Sub.nil _))))))
          · exact fun _ hw => HeapIs.pick hw [0, 1, 2, 3, 4] (by decide) rfl
        · skip
          refine c_skip ?_
          refine q_block_normal (q_then ?_)
          refine c_region ?_
          refine o_pure (p_addb (p := (k : Int)) (q := 1) rfl rfl (by omega)) rfl rfl rfl ?_
          refine o_pure (p_move (v := .int .i64 ((k : Int) + 1)) rfl) rfl rfl rfl ?_
          refine o_nil ?_
          refine q_round hK10 (hits, k + 1, ((Clock.touch cc (l[k])).1), a12, c13, S14) ?_ ?_ ?_ ?_
          · clear hK10
            first | exact hI.hit (by omega) (by assumption) | exact hI.miss (by omega) (by assumption)
          · (try dsimp only); omega
          · exact Sub.cons rfl (Sub.cons rfl (Sub.cons rfl (Sub.cons rfl (Sub.cons rfl (Sub.cons rfl (Sub.nil _))))))
          · exact fun _ hw => HeapIs.pick hw [0, 1, 2, 3, 4] (by decide) rfl
      · simp only [decide_eq_false_iff_not, Int.not_lt] at hc11
        refine c_exit ?_
        refine q_then_exit (q_then_exit (q_block_exit (q_then ?_)))
        refine c_seq ?_
        refine c_region ?_
        refine o_pure (p_move (v := .pointer (some ⟨B5, 0, none⟩)) rfl) rfl rfl rfl ?_
        refine o_pure (p_nilCheck rfl) rfl rfl rfl ?_
        refine o_pure (p_fieldAddr (B := B5) (j := 0) (j' := 0) rfl fo122_0 rfl) rfl rfl rfl ?_
        refine o_pure (p_load_agg (i := 0) (vs := [.int .i64 cc.room, .int .i64 cc.hand, .slice acc_0 cc.frames.length ccc_0]) rfl rfl sh59 rfl rfl) rfl rfl rfl ?_
        refine o_pure (p_move (v := .int .i64 hits) rfl) rfl rfl rfl ?_
        refine o_storeN (i := 2) (vs := [.int .i64 cc.room, .int .i64 cc.hand, .slice acc_0 cc.frames.length ccc_0]) (cs' := [.int .i64 cc.room, .int .i64 cc.hand, .slice acc_0 cc.frames.length ccc_0]) rfl rfl rfl sz59 rfl rfl rfl rfl ?_
        refine o_pure (p_assign (v := .int .i64 hits) rfl) rfl rfl rfl ?_
        refine o_pure (p_assign (v := .int .i64 0) rfl) rfl rfl rfl ?_
        refine o_nil ?_
        refine q_then ?_
        refine c_ret ?_
        obtain ⟨ha, hae⟩ : _ ∧ _ := by first | exact Clock.run_chk l (by assumption) | exact Clock.run_tr (c := c) (l := l) (by assumption) (by assumption) | (obtain ⟨h1, h2⟩ := Clock.run_ok (c := c) (l := l) (by assumption) (by assumption); rw [hI.done (by omega)] at h1; exact ⟨h1, h2⟩)
        have hr0 : (cc.room : Int) = ((Clock.run c l).1).room := by
          simp only [ha, hae, Clock.zero]
        have hr1 : (cc.hand : Int) = ((Clock.run c l).1).hand := by
          simp only [ha, hae, Clock.zero]
        have hr2 : (cc.frames : List DFrame) = ((Clock.run c l).1).frames := by
          simp only [ha, hae, Clock.zero]
        have hr3 : (hits : Int) = ((Clock.run c l).2) := by
          simp only [ha, hae, Clock.zero]
        have hr4 : (0 : Int) = (Clock.runErr c l) := by
          simp only [ha, hae, Clock.zero]
        refine q_endM (p := (acc_0, ccc_0)) Scc_0 (rt3 rfl (r_cell (i := 2) rfl rfl sh59 rfl) (r_tmp rfl) (r_tmp rfl)) (i := 4) rfl ?_ ?_ ?_
        · exact (by have hcc := congr (congr (congr (congr (congrArg (fun (y0 : Int) (y1 : Int) (y2 : List DFrame) (y3 : Int) (y4 : Int) => (.tuple #[.agg #[.int .i64 y0, .int .i64 y1, .slice acc_0 y2.length ccc_0], .int .i64 y3, .int .i64 y4] : Value)) hr0) hr1) hr2) hr3) hr4; exact hcc)
        · exact fun w hw => hw.above (i := 4) (j := 1) (by decide) rfl rfl
        · intro w hw; exact Eq.mp (congrArg (fun y => SlO tFrame _ w acc_0 ccc_0 y) hr2) ((hw.at (i := 1) rfl).here)
  · simp only [beq_eq_false_iff_ne, ne_eq] at hc3
    refine c_skip ?_
    refine q_then ?_
    refine c_seq ?_
    refine c_seq ?_
    refine c_region ?_
    refine o_pure (p_move (v := .int .i64 (Clock.check c)) rfl) rfl rfl rfl ?_
    refine o_pure (p_ne (p := (Clock.check c)) (q := 0) rfl rfl) rfl rfl rfl ?_
    refine o_nil ?_
    refine q_then ?_
    refine c_cond (b := ((Clock.check c) != 0)) rfl (fun hc17 => ?_) (fun hc17 => ?_)
    · simp only [bne_iff_ne, ne_eq] at hc17
      refine c_seq ?_
      refine c_region ?_
      refine o_pure (p_build (cells := [.int .i64 0, .int .i64 0, .slice none 0 0]) fp59 ze59 rfl rfl) rfl rfl rfl ?_
      refine o_pure (p_move (v := .int .i64 (Clock.check c)) rfl) rfl rfl rfl ?_
      refine o_storeN (i := 0) (vs := [.int .i64 0, .int .i64 0, .slice none 0 0]) (cs' := [.int .i64 0, .int .i64 0, .slice none 0 0]) rfl rfl rfl sz59 rfl rfl rfl rfl ?_
      refine o_pure (p_assign (v := .int .i64 0) rfl) rfl rfl rfl ?_
      refine o_pure (p_assign (v := .int .i64 (Clock.check c)) rfl) rfl rfl rfl ?_
      refine o_nil ?_
      refine q_then ?_
      refine c_ret ?_
      refine q_then_ret ?_
      obtain ⟨ha, hae⟩ : _ ∧ _ := by first | exact Clock.run_chk l (by assumption) | exact Clock.run_tr (c := c) (l := l) (by assumption) (by assumption) | (obtain ⟨h1, h2⟩ := Clock.run_ok (c := c) (l := l) (by assumption) (by assumption); rw [hI.done (by omega)] at h1; exact ⟨h1, h2⟩)
      have hr0 : (0 : Int) = ((Clock.run c l).1).room := by
        simp only [ha, hae, Clock.zero]
      have hr1 : (0 : Int) = ((Clock.run c l).1).hand := by
        simp only [ha, hae, Clock.zero]
      have hr2 : ([] : List DFrame) = ((Clock.run c l).1).frames := by
        simp only [ha, hae, Clock.zero]
      have hr3 : (0 : Int) = ((Clock.run c l).2) := by
        simp only [ha, hae, Clock.zero]
      have hr4 : ((Clock.check c) : Int) = (Clock.runErr c l) := by
        simp only [ha, hae, Clock.zero]
      refine q_endM (p := (none, 0)) (fun _ => False) (rt3 rfl (r_cell (i := 0) rfl rfl sh59 rfl) (r_tmp rfl) (r_tmp rfl)) (i := 2) rfl ?_ ?_ ?_
      · exact (by have hcc := congr (congr (congr (congr (congrArg (fun (y0 : Int) (y1 : Int) (y2 : List DFrame) (y3 : Int) (y4 : Int) => (.tuple #[.agg #[.int .i64 y0, .int .i64 y1, .slice none y2.length 0], .int .i64 y3, .int .i64 y4] : Value)) hr0) hr1) hr2) hr3) hr4; exact hcc)
      · intro w hw b hb; exact hb.elim
      · intro w hw; exact Eq.mp (congrArg (fun y => SlO tFrame _ w none 0 y) hr2) (SlO.nil tFrame w)
    · simp only [bne_eq_false_iff_eq] at hc17
      exfalso; first | contradiction | omega | simp_all

set_option maxHeartbeats 8000000 in
set_option maxRecDepth 100000 in
theorem clear__ok (c : DClock) (ac_0 : Option Addr) (cc_0 : Nat) : FnM Try.prog 39 [.agg #[.int .i64 c.room, .int .i64 c.hand, .slice ac_0 c.frames.length cc_0]] (fun w => Rd tFrame w ac_0 cc_0 c.frames) (Option Addr × Nat) (fun p => .tuple #[.agg #[.int .i64 ((Clock.clear c).room), .int .i64 ((Clock.clear c).hand), .slice p.1 ((Clock.clear c).frames).length p.2], .int .i64 (Clock.check c)]) (fun p S w => SlO tFrame S w p.1 p.2 ((Clock.clear c).frames)) := by
  refine fnM (nt := 37) (F0 := [(0, .agg #[.int .i64 c.room, .int .i64 c.hand, .slice ac_0 c.frames.length cc_0])]) Try.func39 rfl Try.ntmps39 rfl rfl (fun w0 hpre => ?_)
  have hc_0 := hpre
  have hlhc_0 := hc_0.2.1
  refine c_seq ?_
  refine c_region ?_
  refine o_box (v := .agg #[.int .i64 c.room, .int .i64 c.hand, .slice ac_0 c.frames.length cc_0]) rfl rfl (fun B1 => ?_)
  refine o_alloc ze59 rfl (fun B2 => ?_)
  refine o_pure (p_assign (v := .int .i64 0) rfl) rfl rfl rfl ?_
  refine o_nil ?_
  refine q_then ?_
  refine c_seq ?_
  refine c_seq ?_
  refine c_region ?_
  refine o_pure (p_load_agg (i := 1) (vs := [.int .i64 c.room, .int .i64 c.hand, .slice ac_0 c.frames.length cc_0]) rfl rfl sh59 rfl rfl) rfl rfl rfl ?_
  refine o_call0 (v := .int .i64 (Clock.check c)) rfl (ccheck_ok c ac_0 cc_0) hf45 (fun w hw => (rd_base (i := 2) rfl hc_0) w hw) rfl ?_
  refine o_pure (p_assign (v := .int .i64 (Clock.check c)) rfl) rfl rfl rfl ?_
  refine o_nil ?_
  refine q_then ?_
  refine c_seq ?_
  refine c_region ?_
  refine o_pure (p_move (v := .int .i64 (Clock.check c)) rfl) rfl rfl rfl ?_
  refine o_pure (p_ne (p := (Clock.check c)) (q := 0) rfl rfl) rfl rfl rfl ?_
  refine o_nil ?_
  refine q_then ?_
  refine c_cond (b := ((Clock.check c) != 0)) rfl (fun hc3 => ?_) (fun hc3 => ?_)
  · simp only [bne_iff_ne, ne_eq] at hc3
    refine c_seq ?_
    refine c_region ?_
    refine o_pure (p_build (cells := [.int .i64 0, .int .i64 0, .slice none 0 0]) fp59 ze59 rfl rfl) rfl rfl rfl ?_
    refine o_pure (p_move (v := .int .i64 (Clock.check c)) rfl) rfl rfl rfl ?_
    refine o_storeN (i := 0) (vs := [.int .i64 0, .int .i64 0, .slice none 0 0]) (cs' := [.int .i64 0, .int .i64 0, .slice none 0 0]) rfl rfl rfl sz59 rfl rfl rfl rfl ?_
    refine o_pure (p_assign (v := .int .i64 (Clock.check c)) rfl) rfl rfl rfl ?_
    refine o_nil ?_
    refine q_then ?_
    refine c_ret ?_
    refine q_then_ret ?_
    have hr0 : (0 : Int) = (Clock.clear c).room := by
      first | (rw [show Clock.clear c = Clock.zero from if_neg (by assumption)]; rfl) | (rw [show Clock.clear c = ⟨c.room, c.hand, Clock.unused c.frames⟩ from if_pos (by assumption)]; first | exact hI.1 | exact hI.2.1 | exact hI.2.2.done (by omega)) | (symm; assumption)
    have hr1 : (0 : Int) = (Clock.clear c).hand := by
      first | (rw [show Clock.clear c = Clock.zero from if_neg (by assumption)]; rfl) | (rw [show Clock.clear c = ⟨c.room, c.hand, Clock.unused c.frames⟩ from if_pos (by assumption)]; first | exact hI.1 | exact hI.2.1 | exact hI.2.2.done (by omega)) | (symm; assumption)
    have hr2 : ([] : List DFrame) = (Clock.clear c).frames := by
      first | (rw [show Clock.clear c = Clock.zero from if_neg (by assumption)]; rfl) | (rw [show Clock.clear c = ⟨c.room, c.hand, Clock.unused c.frames⟩ from if_pos (by assumption)]; first | exact hI.1 | exact hI.2.1 | exact hI.2.2.done (by omega)) | (symm; assumption)
    refine q_endM (p := (none, 0)) (fun _ => False) (rt2 rfl (r_cell (i := 0) rfl rfl sh59 rfl) (r_tmp rfl)) (i := 2) rfl ?_ ?_ ?_
    · exact (by have hcc := congr (congr (congrArg (fun (y0 : Int) (y1 : Int) (y2 : List DFrame) => (.tuple #[.agg #[.int .i64 y0, .int .i64 y1, .slice none y2.length 0], .int .i64 (Clock.check c)] : Value)) hr0) hr1) hr2; exact hcc)
    · intro w hw b hb; exact hb.elim
    · intro w hw; exact Eq.mp (congrArg (fun y => SlO tFrame _ w none 0 y) hr2) (SlO.nil tFrame w)
  · simp only [bne_eq_false_iff_eq] at hc3
    have hok := Clock.ok_of hc3
    have hroom := hok.room
    have hlen := hok.len
    refine c_skip ?_
    refine q_then ?_
    refine c_seq ?_
    refine c_region ?_
    refine o_pure (p_load_agg (i := 1) (vs := [.int .i64 c.room, .int .i64 c.hand, .slice ac_0 c.frames.length cc_0]) rfl rfl sh59 rfl rfl) rfl rfl rfl ?_
    refine o_callX (pre := []) (R := [box B2 [.int .i64 0, .int .i64 0, .slice none 0 0] 59, box B1 [.int .i64 c.room, .int .i64 c.hand, .slice ac_0 c.frames.length cc_0] 59, base w0]) rfl (owned_ok c ac_0 cc_0 (by omega)) hf80 rfl (fun w hw => (rdX (i := 2) (js := []) rfl (by decide) rfl (fun _ hA => slR_base hc_0 hA)) w hw) rfl ?_
    rintro ⟨B4, a5, c6, S7⟩
    refine o_asH (H' := [box B4 [.int .i64 c.room, .int .i64 c.hand, .slice a5 c.frames.length c6] 122, own tFrame S7 a5 c6 c.frames, box B2 [.int .i64 0, .int .i64 0, .slice none 0 0] 59, box B1 [.int .i64 c.room, .int .i64 c.hand, .slice ac_0 c.frames.length cc_0] 59, base w0]) rfl ?_
    refine o_pure (p_assign (v := .pointer (some ⟨B4, 0, none⟩)) rfl) rfl rfl rfl ?_
    refine o_nil ?_
    refine q_then ?_
    refine c_seq ?_
    refine c_seq ?_
    refine c_region ?_
    refine o_pure (p_move (v := .pointer (some ⟨B4, 0, none⟩)) rfl) rfl rfl rfl ?_
    refine o_pure (p_nilCheck rfl) rfl rfl rfl ?_
    refine o_pure (p_fieldAddr (B := B4) (j := 0) (j' := 0) rfl fo122_0 rfl) rfl rfl rfl ?_
    refine o_pure (p_fieldAddr (B := B4) (j := 0) (j' := 2) rfl fo59_2 rfl) rfl rfl rfl ?_
    refine o_pure (p_load (i := 0) (v := .slice a5 c.frames.length c6) rfl rfl sh57 rfl) rfl rfl rfl ?_
    refine o_pure (p_len_slice (len := c.frames.length) rfl rfl Try.underlying57) rfl rfl rfl ?_
    refine o_pure (p_move (v := .int .i64 0) rfl) rfl rfl rfl ?_
    refine o_nil ?_
    refine q_then ?_
    refine c_block ?_
    refine c_loop (St := Nat × DClock × Option Addr × Nat × (Nat → Prop))
      (fun ⟨k, cc, acc_0, ccc_0, Scc_0⟩ => [(2, .pointer (some ⟨B2, 0, none⟩)), (5, .pointer (some ⟨B4, 0, none⟩)), (20, .int .i64 (c.frames.length : Int)), (21, .int .i64 (k : Int))])
      (fun ⟨k, cc, acc_0, ccc_0, Scc_0⟩ => [box B4 [.int .i64 cc.room, .int .i64 cc.hand, .slice acc_0 cc.frames.length ccc_0] 122, own tFrame Scc_0 acc_0 ccc_0 cc.frames, box B2 [.int .i64 0, .int .i64 0, .slice none 0 0] 59, box B1 [.int .i64 c.room, .int .i64 c.hand, .slice ac_0 c.frames.length cc_0] 59, base w0])
      (fun ⟨k, cc, acc_0, ccc_0, Scc_0⟩ => cc.room = c.room ∧ cc.hand = c.hand ∧ Clock.UInv c.frames cc.frames k)
      (fun ⟨k, cc, acc_0, ccc_0, Scc_0⟩ => c.frames.length - k)
      (0, c, a5, c6, S7) ?_ (Sub.cons rfl (Sub.cons rfl (Sub.cons rfl (Sub.cons rfl (Sub.nil _))))) (fun _ hw => hw) ?_
    · exact ⟨rfl, rfl, Clock.UInv.start _⟩
    rintro ⟨k, cc, acc_0, ccc_0, Scc_0⟩ hI K hK9
    have hul := hI.2.2.len
    show SC _ _ Try.prog 37 w0 _ _ [(2, .pointer (some ⟨B2, 0, none⟩)), (5, .pointer (some ⟨B4, 0, none⟩)), (20, .int .i64 (c.frames.length : Int)), (21, .int .i64 (k : Int))] [box B4 [.int .i64 cc.room, .int .i64 cc.hand, .slice acc_0 cc.frames.length ccc_0] 122, own tFrame Scc_0 acc_0 ccc_0 cc.frames, box B2 [.int .i64 0, .int .i64 0, .slice none 0 0] 59, box B1 [.int .i64 c.room, .int .i64 c.hand, .slice ac_0 c.frames.length cc_0] 59, base w0]
    refine c_seq ?_
    refine c_region ?_
    refine o_pure (p_lt (p := (k : Int)) (q := (c.frames.length : Int)) rfl rfl) rfl rfl rfl ?_
    refine o_nil ?_
    refine q_then ?_
    refine c_seq ?_
    refine c_cond (b := decide ((k : Int) < (c.frames.length : Int))) rfl (fun hc10 => ?_) (fun hc10 => ?_)
    · simp only [decide_eq_true_eq] at hc10
      refine c_skip ?_
      refine q_then ?_
      refine c_seq ?_
      refine c_block ?_
      refine c_seq ?_
      refine c_region ?_
      refine o_pure (p_move (v := .int .i64 (k : Int)) rfl) rfl rfl rfl ?_
      refine o_pure (p_assign (v := .int .i64 (k : Int)) rfl) rfl rfl rfl ?_
      refine o_nil ?_
      refine q_then ?_
      refine c_region ?_
      refine o_pure (p_move (v := .pointer (some ⟨B4, 0, none⟩)) rfl) rfl rfl rfl ?_
      refine o_pure (p_nilCheck rfl) rfl rfl rfl ?_
      refine o_pure (p_fieldAddr (B := B4) (j := 0) (j' := 0) rfl fo122_0 rfl) rfl rfl rfl ?_
      refine o_pure (p_fieldAddr (B := B4) (j := 0) (j' := 2) rfl fo59_2 rfl) rfl rfl rfl ?_
      refine o_pure (p_load (i := 0) (v := .slice acc_0 cc.frames.length ccc_0) rfl rfl sh57 rfl) rfl rfl rfl ?_
      refine o_pure (p_move (v := .int .i64 (k : Int)) rfl) rfl rfl rfl ?_
      refine o_pure (p_indexAddr (L := cc.frames) (T := tFrame) (i := (k : Int)) rfl rfl (rd_own (i := 1) rfl) Try.underlying57 sz73 (by omega) (by omega)) rfl rfl rfl ?_
      refine o_pure (p_fieldAddrE rfl fo73_1) rfl rfl rfl ?_
      refine o_storeF (j := 1) (i := 1) (T := tFrame) (idx := k) (v := .bool false) (vs := [.bool false]) (z := (⟨(cc.frames[k]).key, false⟩ : DFrame)) (F' := [(2, .pointer (some ⟨B2, 0, none⟩)), (5, .pointer (some ⟨B4, 0, none⟩)), (20, .int .i64 (c.frames.length : Int)), (21, .int .i64 (k : Int))]) rfl rfl rfl rfl (by first | assumption | omega | (simp only [List.length_set]; omega)) sz4 rfl rfl rfl rfl (Sub.cons rfl (Sub.cons rfl (Sub.cons rfl (Sub.cons rfl (Sub.nil _))))) ?_
      refine o_asH (H := [box B4 [.int .i64 cc.room, .int .i64 cc.hand, .slice acc_0 cc.frames.length ccc_0] 122, own tFrame Scc_0 acc_0 ccc_0 (cc.frames.set k (⟨(cc.frames[k]).key, false⟩ : DFrame)), box B2 [.int .i64 0, .int .i64 0, .slice none 0 0] 59, box B1 [.int .i64 c.room, .int .i64 c.hand, .slice ac_0 c.frames.length cc_0] 59, base w0]) (H' := [box B4 [.int .i64 cc.room, .int .i64 cc.hand, .slice acc_0 (cc.frames.set k (⟨(cc.frames[k]).key, false⟩ : DFrame)).length ccc_0] 122, own tFrame Scc_0 acc_0 ccc_0 (cc.frames.set k (⟨(cc.frames[k]).key, false⟩ : DFrame)), box B2 [.int .i64 0, .int .i64 0, .slice none 0 0] 59, box B1 [.int .i64 c.room, .int .i64 c.hand, .slice ac_0 c.frames.length cc_0] 59, base w0]) (by simp only [List.length_set]) ?_
      refine o_nil ?_
      refine q_block_normal (q_then ?_)
      refine c_region ?_
      refine o_pure (p_addb (p := (k : Int)) (q := 1) rfl rfl (by omega)) rfl rfl rfl ?_
      refine o_pure (p_move (v := .int .i64 ((k : Int) + 1)) rfl) rfl rfl rfl ?_
      refine o_nil ?_
      refine q_round hK9 (k + 1, (⟨cc.room, cc.hand, (cc.frames.set k (⟨(cc.frames[k]).key, false⟩ : DFrame))⟩ : DClock), acc_0, ccc_0, Scc_0) ?_ ?_ ?_ ?_
      · clear hK9
        exact ⟨hI.1, hI.2.1, hI.2.2.next (by omega) (by omega)⟩
      · (try dsimp only); omega
      · exact Sub.cons rfl (Sub.cons rfl (Sub.cons rfl (Sub.cons rfl (Sub.nil _))))
      · exact fun _ hw => HeapIs.pick hw [0, 1, 2, 3, 4] (by decide) rfl
    · simp only [decide_eq_false_iff_not, Int.not_lt] at hc10
      refine c_exit ?_
      refine q_then_exit (q_then_exit (q_block_exit (q_then ?_)))
      refine c_seq ?_
      refine c_region ?_
      refine o_pure (p_move (v := .pointer (some ⟨B4, 0, none⟩)) rfl) rfl rfl rfl ?_
      refine o_pure (p_nilCheck rfl) rfl rfl rfl ?_
      refine o_pure (p_fieldAddr (B := B4) (j := 0) (j' := 0) rfl fo122_0 rfl) rfl rfl rfl ?_
      refine o_pure (p_load_agg (i := 0) (vs := [.int .i64 cc.room, .int .i64 cc.hand, .slice acc_0 cc.frames.length ccc_0]) rfl rfl sh59 rfl rfl) rfl rfl rfl ?_
      refine o_storeN (i := 2) (vs := [.int .i64 cc.room, .int .i64 cc.hand, .slice acc_0 cc.frames.length ccc_0]) (cs' := [.int .i64 cc.room, .int .i64 cc.hand, .slice acc_0 cc.frames.length ccc_0]) rfl rfl rfl sz59 rfl rfl rfl rfl ?_
      refine o_pure (p_assign (v := .int .i64 0) rfl) rfl rfl rfl ?_
      refine o_nil ?_
      refine q_then ?_
      refine c_ret ?_
      have hr0 : (cc.room : Int) = (Clock.clear c).room := by
        first | (rw [show Clock.clear c = Clock.zero from if_neg (by assumption)]; rfl) | (rw [show Clock.clear c = ⟨c.room, c.hand, Clock.unused c.frames⟩ from if_pos (by assumption)]; first | exact hI.1 | exact hI.2.1 | exact hI.2.2.done (by omega)) | (symm; assumption)
      have hr1 : (cc.hand : Int) = (Clock.clear c).hand := by
        first | (rw [show Clock.clear c = Clock.zero from if_neg (by assumption)]; rfl) | (rw [show Clock.clear c = ⟨c.room, c.hand, Clock.unused c.frames⟩ from if_pos (by assumption)]; first | exact hI.1 | exact hI.2.1 | exact hI.2.2.done (by omega)) | (symm; assumption)
      have hr2 : (cc.frames : List DFrame) = (Clock.clear c).frames := by
        first | (rw [show Clock.clear c = Clock.zero from if_neg (by assumption)]; rfl) | (rw [show Clock.clear c = ⟨c.room, c.hand, Clock.unused c.frames⟩ from if_pos (by assumption)]; first | exact hI.1 | exact hI.2.1 | exact hI.2.2.done (by omega)) | (symm; assumption)
      have hr3 : (0 : Int) = (Clock.check c) := by
        first | (rw [show Clock.clear c = Clock.zero from if_neg (by assumption)]; rfl) | (rw [show Clock.clear c = ⟨c.room, c.hand, Clock.unused c.frames⟩ from if_pos (by assumption)]; first | exact hI.1 | exact hI.2.1 | exact hI.2.2.done (by omega)) | (symm; assumption)
      refine q_endM (p := (acc_0, ccc_0)) Scc_0 (rt2 rfl (r_cell (i := 2) rfl rfl sh59 rfl) (r_tmp rfl)) (i := 4) rfl ?_ ?_ ?_
      · exact (by have hcc := congr (congr (congr (congrArg (fun (y0 : Int) (y1 : Int) (y2 : List DFrame) (y3 : Int) => (.tuple #[.agg #[.int .i64 y0, .int .i64 y1, .slice acc_0 y2.length ccc_0], .int .i64 y3] : Value)) hr0) hr1) hr2) hr3; exact hcc)
      · exact fun w hw => hw.above (i := 4) (j := 1) (by decide) rfl rfl
      · intro w hw; exact Eq.mp (congrArg (fun y => SlO tFrame _ w acc_0 ccc_0 y) hr2) ((hw.at (i := 1) rfl).here)
end Go.Proofs.Ythbfdhphnofacab
