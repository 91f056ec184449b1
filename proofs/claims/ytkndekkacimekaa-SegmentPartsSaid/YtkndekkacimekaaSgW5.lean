/- The walks, printed by a program from the translation and a specification. -/
import Derived.Test.YtkndekkacimekaaSgF
import Derived.Test.YtkndekkacimekaaSgLaw
import Derived.Test.YtkndekkacimekaaSgW2
import Derived.Test.YtkndekkacimekaaSgW3
namespace Go.Proofs.Ytkndekkacimekaa
open Go.Sx Go.RowKit
set_option maxHeartbeats 8000000 in
set_option maxRecDepth 100000 in
theorem scheck_ok (h : DHalls) (ah_0 : Option Addr) (ch_0 : Nat) (ah_1 : Option Addr) (ch_1 : Nat) : Fn0 Try.prog 41 [.agg #[.int .i64 h.first, .int .i64 h.second, .slice ah_0 h.young.length ch_0, .slice ah_1 h.old.length ch_1]] (fun w => Rd tInt w ah_0 ch_0 h.young ∧ Rd tInt w ah_1 ch_1 h.old) (.int .i64 (Seg.check h)) := by
  refine fn0 (nt := 36) (F0 := [(0, .agg #[.int .i64 h.first, .int .i64 h.second, .slice ah_0 h.young.length ch_0, .slice ah_1 h.old.length ch_1])]) Try.func41 rfl Try.ntmps41 rfl rfl (fun w0 hpre => ?_)
  obtain ⟨hh_0, hh_1⟩ := hpre
  have hlhh_0 := hh_0.2.1
  have hlhh_1 := hh_1.2.1
  refine c_seq ?_
  refine c_region ?_
  refine o_box (v := .agg #[.int .i64 h.first, .int .i64 h.second, .slice ah_0 h.young.length ch_0, .slice ah_1 h.old.length ch_1]) rfl rfl (fun B1 => ?_)
  refine o_pure (p_assign (v := .int .i64 0) rfl) rfl rfl rfl ?_
  refine o_nil ?_
  refine q_then ?_
  refine c_seq ?_
  refine c_block ?_
  refine c_seq ?_
  refine c_region ?_
  refine o_pure (p_fieldAddr (B := B1) (j := 0) (j' := 0) rfl fo58_0 rfl) rfl rfl rfl ?_
  refine o_pure (p_load (i := 0) (v := .int .i64 h.first) rfl rfl sh3 rfl) rfl rfl rfl ?_
  refine o_call0 (v := .bool (Lru.okRoom h.first)) rfl (room_ok h.first) hf70 (fun _ _ => trivial) rfl ?_
  refine o_pure (p_not (b := (Lru.okRoom h.first)) rfl) rfl rfl rfl ?_
  refine o_pure (p_move (v := .bool (!(Lru.okRoom h.first))) rfl) rfl rfl rfl ?_
  refine o_or (p := 13) 5 (!(Lru.okRoom h.second)) ?_ ?_ ?_
  · intro hb2 hk
    simp only [Bool.not_eq_false'] at hb2
    refine o_unguard 8 rfl rfl ?_
    refine o_pure (p_fieldAddr (B := B1) (j := 0) (j' := 1) rfl fo58_1 rfl) rfl rfl rfl ?_
    refine o_unguard 8 rfl rfl ?_
    refine o_pure (p_load (i := 0) (v := .int .i64 h.second) rfl rfl sh3 rfl) rfl rfl rfl ?_
    refine o_unguard 8 rfl rfl ?_
    refine o_call0 (v := .bool (Lru.okRoom h.second)) rfl (room_ok h.second) hf70 (fun _ _ => trivial) rfl ?_
    refine o_unguard 8 rfl rfl ?_
    refine o_pure (p_not (b := (Lru.okRoom h.second)) rfl) rfl rfl rfl ?_
    refine o_pure (p_pick_false (v := .bool (!(Lru.okRoom h.second))) rfl rfl) rfl rfl rfl ?_
    exact o_sub (Sub.cons rfl (Sub.skip rfl (Sub.skip rfl (Sub.skip rfl (Sub.skip rfl (Sub.skip rfl (Sub.skip rfl (Sub.refl _)))))))) hk
  · intro hb2 hk
    refine o_guard_no rfl 8 rfl rfl rfl rfl rfl ?_
    refine o_guard_no rfl 8 rfl rfl rfl rfl rfl ?_
    refine o_guard_no rfl 8 rfl rfl rfl rfl rfl ?_
    refine o_guard_no rfl 8 rfl rfl rfl rfl rfl ?_
    refine o_pure (p_pick_true (u := .bool true) rfl rfl) rfl rfl rfl ?_
    exact o_sub (Sub.cons rfl (Sub.skip rfl (Sub.skip rfl (Sub.skip rfl (Sub.skip rfl (Sub.skip rfl (Sub.skip rfl (Sub.refl _)))))))) hk
  refine o_pure (p_assign (v := .bool ((!(Lru.okRoom h.first)) || (!(Lru.okRoom h.second)))) rfl) rfl rfl rfl ?_
  refine o_nil ?_
  refine q_then ?_
  refine c_cond (b := ((!(Lru.okRoom h.first)) || (!(Lru.okRoom h.second)))) rfl (fun hc3 => ?_) (fun hc3 => ?_)
  · simp only [Bool.or_eq_true, Bool.not_eq_true'] at hc3
    refine c_seq ?_
    refine c_region ?_
    refine o_pure (p_assign (v := .int .i64 3) rfl) rfl rfl rfl ?_
    refine o_nil ?_
    refine q_then ?_
    refine c_ret ?_
    refine q_block_ret (q_then_ret ?_)
    have hr0 : (3 : Int) = (Seg.check h) := by
      first | exact Seg.chk1 (by assumption) | exact Seg.chk2 hrm (by omega) | exact Seg.chk3 hrm (by omega)
    refine q_end0 (v := .int .i64 3) (rt1 rfl (r_tmp rfl)) (i := 1) rfl ?_
    exact (by have hcc := congrArg (fun (y0 : Int) => (.int .i64 y0 : Value)) hr0; exact hcc)
  · simp only [Bool.or_eq_false_iff, Bool.not_eq_false'] at hc3
    have hrm := hc3
    have hrn := Lru.room_ok hrm.1
    have hrf := Lru.room_ok hrm.2
    refine c_seq ?_
    refine c_region ?_
    refine o_pure (p_fieldAddr (B := B1) (j := 0) (j' := 2) rfl fo58_2 rfl) rfl rfl rfl ?_
    refine o_pure (p_load (i := 0) (v := .slice ah_0 h.young.length ch_0) rfl rfl sh30 rfl) rfl rfl rfl ?_
    refine o_pure (p_len_slice (len := h.young.length) rfl rfl Try.underlying30) rfl rfl rfl ?_
    refine o_pure (p_fieldAddr (B := B1) (j := 0) (j' := 0) rfl fo58_0 rfl) rfl rfl rfl ?_
    refine o_pure (p_load (i := 0) (v := .int .i64 h.first) rfl rfl sh3 rfl) rfl rfl rfl ?_
    refine o_pure (p_gt (p := (h.young.length : Int)) (q := h.first) rfl rfl) rfl rfl rfl ?_
    refine o_pure (p_move (v := .bool (decide (h.first < (h.young.length : Int)))) rfl) rfl rfl rfl ?_
    refine o_or (p := 28) 7 (decide (h.second < (h.old.length : Int))) ?_ ?_ ?_
    · intro hb4 hk
      simp only [decide_eq_false_iff_not, Int.not_lt] at hb4
      refine o_unguard 21 rfl rfl ?_
      refine o_pure (p_fieldAddr (B := B1) (j := 0) (j' := 3) rfl fo58_3 rfl) rfl rfl rfl ?_
      refine o_unguard 21 rfl rfl ?_
      refine o_pure (p_load (i := 0) (v := .slice ah_1 h.old.length ch_1) rfl rfl sh30 rfl) rfl rfl rfl ?_
      refine o_unguard 21 rfl rfl ?_
      refine o_pure (p_len_slice (len := h.old.length) rfl rfl Try.underlying30) rfl rfl rfl ?_
      refine o_unguard 21 rfl rfl ?_
      refine o_pure (p_fieldAddr (B := B1) (j := 0) (j' := 1) rfl fo58_1 rfl) rfl rfl rfl ?_
      refine o_unguard 21 rfl rfl ?_
      refine o_pure (p_load (i := 0) (v := .int .i64 h.second) rfl rfl sh3 rfl) rfl rfl rfl ?_
      refine o_unguard 21 rfl rfl ?_
      refine o_pure (p_gt (p := (h.old.length : Int)) (q := h.second) rfl rfl) rfl rfl rfl ?_
      refine o_pure (p_pick_false (v := .bool (decide (h.second < (h.old.length : Int)))) rfl rfl) rfl rfl rfl ?_
      exact o_sub (Sub.cons rfl (Sub.skip rfl (Sub.skip rfl (Sub.skip rfl (Sub.skip rfl (Sub.skip rfl (Sub.skip rfl (Sub.skip rfl (Sub.skip rfl (Sub.refl _)))))))))) hk
    · intro hb4 hk
      refine o_guard_no rfl 21 rfl rfl rfl rfl rfl ?_
      refine o_guard_no rfl 21 rfl rfl rfl rfl rfl ?_
      refine o_guard_no rfl 21 rfl rfl rfl rfl rfl ?_
      refine o_guard_no rfl 21 rfl rfl rfl rfl rfl ?_
      refine o_guard_no rfl 21 rfl rfl rfl rfl rfl ?_
      refine o_guard_no rfl 21 rfl rfl rfl rfl rfl ?_
      refine o_pure (p_pick_true (u := .bool true) rfl rfl) rfl rfl rfl ?_
      exact o_sub (Sub.cons rfl (Sub.skip rfl (Sub.skip rfl (Sub.skip rfl (Sub.skip rfl (Sub.skip rfl (Sub.skip rfl (Sub.skip rfl (Sub.skip rfl (Sub.refl _)))))))))) hk
    refine o_pure (p_assign (v := .bool (decide (h.first < (h.young.length : Int)) || decide (h.second < (h.old.length : Int)))) rfl) rfl rfl rfl ?_
    refine o_nil ?_
    refine q_then ?_
    refine c_cond (b := (decide (h.first < (h.young.length : Int)) || decide (h.second < (h.old.length : Int)))) rfl (fun hc5 => ?_) (fun hc5 => ?_)
    · simp only [Bool.or_eq_true, decide_eq_true_eq] at hc5
      refine c_seq ?_
      refine c_region ?_
      refine o_pure (p_assign (v := .int .i64 2) rfl) rfl rfl rfl ?_
      refine o_nil ?_
      refine q_then ?_
      refine c_ret ?_
      refine q_block_ret (q_then_ret ?_)
      have hr0 : (2 : Int) = (Seg.check h) := by
        first | exact Seg.chk1 (by assumption) | exact Seg.chk2 hrm (by omega) | exact Seg.chk3 hrm (by omega)
      refine q_end0 (v := .int .i64 2) (rt1 rfl (r_tmp rfl)) (i := 1) rfl ?_
      exact (by have hcc := congrArg (fun (y0 : Int) => (.int .i64 y0 : Value)) hr0; exact hcc)
    · simp only [Bool.or_eq_false_iff, decide_eq_false_iff_not, Int.not_lt] at hc5
      refine c_skip ?_
      refine q_block_normal (q_then ?_)
      refine c_seq ?_
      refine c_region ?_
      refine o_pure (p_fieldAddr (B := B1) (j := 0) (j' := 2) rfl fo58_2 rfl) rfl rfl rfl ?_
      refine o_pure (p_load (i := 0) (v := .slice ah_0 h.young.length ch_0) rfl rfl sh30 rfl) rfl rfl rfl ?_
      refine o_pure (p_fieldAddr (B := B1) (j := 0) (j' := 3) rfl fo58_3 rfl) rfl rfl rfl ?_
      refine o_pure (p_load (i := 0) (v := .slice ah_1 h.old.length ch_1) rfl rfl sh30 rfl) rfl rfl rfl ?_
      refine o_buildSlice (m := 2) (T := tHdr) (L := [(⟨ah_0, ch_0, h.young⟩ : Hdr), (⟨ah_1, ch_1, h.old⟩ : Hdr)]) (vs := [.slice ah_0 h.young.length ch_0, .slice ah_1 h.old.length ch_1]) rfl rfl rfl rfl Try.underlying133 sz30 (by decide) ze30 rfl (by decide) rfl (fun S6 a7 => ?_)
      refine o_callM rfl (concat2_ok h.young ah_0 ch_0 h.old ah_1 ch_1 a7 ([(⟨ah_0, ch_0, h.young⟩ : Hdr), (⟨ah_1, ch_1, h.old⟩ : Hdr)].length) (by first | omega | (simp only [List.length_append]; omega))) hf67 (fun w hw => ⟨(rd_own (i := 0) rfl) w hw, (rd_base (i := 2) rfl hh_0) w hw, (rd_base (i := 2) rfl hh_1) w hw⟩) rfl (fun _ _ _ _ ha hA => SlO.agree ha hA) ?_
      rintro ⟨a11, c12⟩ S9
      refine o_know (fun w hw => own_len (i := 0) (T := tInt) hw rfl) (fun hlr13 => ?_)
      refine o_call0 (v := .int .i64 (Lru.keys (h.young ++ h.old))) rfl (keys_ok (h.young ++ h.old) a11 c12) hf71 (fun w hw => (rd_own (i := 0) rfl) w hw) rfl ?_
      refine o_pure (p_assign (v := .int .i64 (Lru.keys (h.young ++ h.old))) rfl) rfl rfl rfl ?_
      refine o_nil ?_
      refine q_then ?_
      refine c_ret ?_
      have hr0 : ((Lru.keys (h.young ++ h.old)) : Int) = (Seg.check h) := by
        first | exact Seg.chk1 (by assumption) | exact Seg.chk2 hrm (by omega) | exact Seg.chk3 hrm (by omega)
      refine q_end0 (v := .int .i64 (Lru.keys (h.young ++ h.old))) (rt1 rfl (r_tmp rfl)) (i := 3) rfl ?_
      exact (by have hcc := congrArg (fun (y0 : Int) => (.int .i64 y0 : Value)) hr0; exact hcc)
end Go.Proofs.Ytkndekkacimekaa
