/- The walks, printed by a program from the translation and a specification. -/
import Derived.Test.YtkndekkacimekaaTdF
import Derived.Test.YtkndekkacimekaaTdLaw
import Derived.Test.YtkndekkacimekaaTdW2
import Derived.Test.YtkndekkacimekaaTdW3
namespace Go.Proofs.Ytkndekkacimekaa
open Go.Sx Go.RowKit
set_option maxHeartbeats 8000000 in
set_option maxRecDepth 100000 in
theorem troom_ok (n : Int) : Fn0 Try.prog 97 [.int .i64 n] (fun _ => True) (.bool (Tier.okRoom n)) := by
  refine fn0 (nt := 9) (F0 := [(0, .int .i64 n)]) Try.func97 rfl Try.ntmps97 rfl rfl (fun w0 hpre => ?_)
  refine c_seq ?_
  refine c_region ?_
  refine o_pure (p_assign (v := .bool false) rfl) rfl rfl rfl ?_
  refine o_nil ?_
  refine q_then ?_
  refine c_seq ?_
  refine c_region ?_
  refine o_pure (p_move (v := .int .i64 n) rfl) rfl rfl rfl ?_
  refine o_pure (p_ge (p := n) (q := 1) rfl rfl) rfl rfl rfl ?_
  refine o_pure (p_move (v := .bool (decide (1 ≤ n))) rfl) rfl rfl rfl ?_
  refine o_and (p := 8) 3 (decide (n ≤ 20)) ?_ ?_ ?_
  · intro hb1 hk
    simp only [decide_eq_true_eq] at hb1
    refine o_unguard 5 rfl rfl ?_
    refine o_pure (p_move (v := .int .i64 n) rfl) rfl rfl rfl ?_
    refine o_unguard 5 rfl rfl ?_
    refine o_pure (p_le (p := n) (q := 20) rfl rfl) rfl rfl rfl ?_
    refine o_pure (p_pick_true (u := .bool (decide (n ≤ 20))) rfl rfl) rfl rfl rfl ?_
    exact o_sub (Sub.cons rfl (Sub.skip rfl (Sub.skip rfl (Sub.skip rfl (Sub.skip rfl (Sub.refl _)))))) hk
  · intro hb1 hk
    refine o_guard_no rfl 5 rfl rfl rfl rfl rfl ?_
    refine o_guard_no rfl 5 rfl rfl rfl rfl rfl ?_
    refine o_pure (p_pick_false (v := .bool false) rfl rfl) rfl rfl rfl ?_
    exact o_sub (Sub.cons rfl (Sub.skip rfl (Sub.skip rfl (Sub.skip rfl (Sub.skip rfl (Sub.refl _)))))) hk
  refine o_pure (p_assign (v := .bool (decide (1 ≤ n) && decide (n ≤ 20))) rfl) rfl rfl rfl ?_
  refine o_nil ?_
  refine q_then ?_
  refine c_ret ?_
  have hr0 : ((decide (1 ≤ n) && decide (n ≤ 20)) : Bool) = (Tier.okRoom n) := by
    rfl
  refine q_end0 (v := .bool (decide (1 ≤ n) && decide (n ≤ 20))) (rt1 rfl (r_tmp rfl)) (i := 0) rfl ?_
  exact (by have hcc := congrArg (fun (y0 : Bool) => (.bool y0 : Value)) hr0; exact hcc)

set_option maxHeartbeats 8000000 in
set_option maxRecDepth 100000 in
theorem tcheck_ok (t : DTiers) (at_0 : Option Addr) (ct_0 : Nat) (at_1 : Option Addr) (ct_1 : Nat) : Fn0 Try.prog 73 [.agg #[.int .i64 t.near, .int .i64 t.far, .slice at_0 t.first.length ct_0, .slice at_1 t.rest.length ct_1]] (fun w => Rd tInt w at_0 ct_0 t.first ∧ Rd tInt w at_1 ct_1 t.rest) (.int .i64 (Tier.check t)) := by
  refine fn0 (nt := 52) (F0 := [(0, .agg #[.int .i64 t.near, .int .i64 t.far, .slice at_0 t.first.length ct_0, .slice at_1 t.rest.length ct_1])]) Try.func73 rfl Try.ntmps73 rfl rfl (fun w0 hpre => ?_)
  obtain ⟨ht_0, ht_1⟩ := hpre
  have hlht_0 := ht_0.2.1
  have hlht_1 := ht_1.2.1
  refine c_seq ?_
  refine c_region ?_
  refine o_box (v := .agg #[.int .i64 t.near, .int .i64 t.far, .slice at_0 t.first.length ct_0, .slice at_1 t.rest.length ct_1]) rfl rfl (fun B1 => ?_)
  refine o_pure (p_assign (v := .int .i64 0) rfl) rfl rfl rfl ?_
  refine o_nil ?_
  refine q_then ?_
  refine c_seq ?_
  refine c_block ?_
  refine c_seq ?_
  refine c_region ?_
  refine o_pure (p_fieldAddr (B := B1) (j := 0) (j' := 0) rfl fo76_0 rfl) rfl rfl rfl ?_
  refine o_pure (p_load (i := 0) (v := .int .i64 t.near) rfl rfl sh3 rfl) rfl rfl rfl ?_
  refine o_call0 (v := .bool (Tier.okRoom t.near)) rfl (troom_ok t.near) hf97 (fun _ _ => trivial) rfl ?_
  refine o_pure (p_not (b := (Tier.okRoom t.near)) rfl) rfl rfl rfl ?_
  refine o_pure (p_move (v := .bool (!(Tier.okRoom t.near))) rfl) rfl rfl rfl ?_
  refine o_or (p := 14) 5 (!(Tier.okRoom t.far)) ?_ ?_ ?_
  · intro hb2 hk
    simp only [Bool.not_eq_false'] at hb2
    refine o_unguard 9 rfl rfl ?_
    refine o_pure (p_fieldAddr (B := B1) (j := 0) (j' := 1) rfl fo76_1 rfl) rfl rfl rfl ?_
    refine o_unguard 9 rfl rfl ?_
    refine o_pure (p_load (i := 0) (v := .int .i64 t.far) rfl rfl sh3 rfl) rfl rfl rfl ?_
    refine o_unguard 9 rfl rfl ?_
    refine o_call0 (v := .bool (Tier.okRoom t.far)) rfl (troom_ok t.far) hf97 (fun _ _ => trivial) rfl ?_
    refine o_unguard 9 rfl rfl ?_
    refine o_pure (p_not (b := (Tier.okRoom t.far)) rfl) rfl rfl rfl ?_
    refine o_pure (p_pick_false (v := .bool (!(Tier.okRoom t.far))) rfl rfl) rfl rfl rfl ?_
    exact o_sub (Sub.cons rfl (Sub.skip rfl (Sub.skip rfl (Sub.skip rfl (Sub.skip rfl (Sub.skip rfl (Sub.skip rfl (Sub.refl _)))))))) hk
  · intro hb2 hk
    refine o_guard_no rfl 9 rfl rfl rfl rfl rfl ?_
    refine o_guard_no rfl 9 rfl rfl rfl rfl rfl ?_
    refine o_guard_no rfl 9 rfl rfl rfl rfl rfl ?_
    refine o_guard_no rfl 9 rfl rfl rfl rfl rfl ?_
    refine o_pure (p_pick_true (u := .bool true) rfl rfl) rfl rfl rfl ?_
    exact o_sub (Sub.cons rfl (Sub.skip rfl (Sub.skip rfl (Sub.skip rfl (Sub.skip rfl (Sub.skip rfl (Sub.skip rfl (Sub.refl _)))))))) hk
  refine o_pure (p_assign (v := .bool ((!(Tier.okRoom t.near)) || (!(Tier.okRoom t.far)))) rfl) rfl rfl rfl ?_
  refine o_nil ?_
  refine q_then ?_
  refine c_cond (b := ((!(Tier.okRoom t.near)) || (!(Tier.okRoom t.far)))) rfl (fun hc3 => ?_) (fun hc3 => ?_)
  · simp only [Bool.or_eq_true, Bool.not_eq_true'] at hc3
    refine c_seq ?_
    refine c_region ?_
    refine o_pure (p_assign (v := .int .i64 3) rfl) rfl rfl rfl ?_
    refine o_nil ?_
    refine q_then ?_
    refine c_ret ?_
    refine q_block_ret (q_then_ret ?_)
    have hr0 : (3 : Int) = (Tier.check t) := by
      first | exact Tier.chk1 (by assumption) | exact Tier.chk2 hrm (by omega) | exact Tier.chk3 hrm hln hkn | exact Tier.chk4 hrm hln hky (by omega) | exact Tier.chk5 hrm hln hky (by omega)
    refine q_end0 (v := .int .i64 3) (rt1 rfl (r_tmp rfl)) (i := 1) rfl ?_
    exact (by have hcc := congrArg (fun (y0 : Int) => (.int .i64 y0 : Value)) hr0; exact hcc)
  · simp only [Bool.or_eq_false_iff, Bool.not_eq_false'] at hc3
    have hrm := hc3
    have hrn := Tier.room_bd hrm.1
    have hrf := Tier.room_bd hrm.2
    refine c_seq ?_
    refine c_region ?_
    refine o_pure (p_fieldAddr (B := B1) (j := 0) (j' := 2) rfl fo76_2 rfl) rfl rfl rfl ?_
    refine o_pure (p_load (i := 0) (v := .slice at_0 t.first.length ct_0) rfl rfl sh30 rfl) rfl rfl rfl ?_
    refine o_pure (p_len_slice (len := t.first.length) rfl rfl Try.underlying30) rfl rfl rfl ?_
    refine o_pure (p_fieldAddr (B := B1) (j := 0) (j' := 0) rfl fo76_0 rfl) rfl rfl rfl ?_
    refine o_pure (p_load (i := 0) (v := .int .i64 t.near) rfl rfl sh3 rfl) rfl rfl rfl ?_
    refine o_pure (p_gt (p := (t.first.length : Int)) (q := t.near) rfl rfl) rfl rfl rfl ?_
    refine o_pure (p_move (v := .bool (decide (t.near < (t.first.length : Int)))) rfl) rfl rfl rfl ?_
    refine o_or (p := 29) 7 (decide (t.far < (t.rest.length : Int))) ?_ ?_ ?_
    · intro hb4 hk
      simp only [decide_eq_false_iff_not, Int.not_lt] at hb4
      refine o_unguard 22 rfl rfl ?_
      refine o_pure (p_fieldAddr (B := B1) (j := 0) (j' := 3) rfl fo76_3 rfl) rfl rfl rfl ?_
      refine o_unguard 22 rfl rfl ?_
      refine o_pure (p_load (i := 0) (v := .slice at_1 t.rest.length ct_1) rfl rfl sh30 rfl) rfl rfl rfl ?_
      refine o_unguard 22 rfl rfl ?_
      refine o_pure (p_len_slice (len := t.rest.length) rfl rfl Try.underlying30) rfl rfl rfl ?_
      refine o_unguard 22 rfl rfl ?_
      refine o_pure (p_fieldAddr (B := B1) (j := 0) (j' := 1) rfl fo76_1 rfl) rfl rfl rfl ?_
      refine o_unguard 22 rfl rfl ?_
      refine o_pure (p_load (i := 0) (v := .int .i64 t.far) rfl rfl sh3 rfl) rfl rfl rfl ?_
      refine o_unguard 22 rfl rfl ?_
      refine o_pure (p_gt (p := (t.rest.length : Int)) (q := t.far) rfl rfl) rfl rfl rfl ?_
      refine o_pure (p_pick_false (v := .bool (decide (t.far < (t.rest.length : Int)))) rfl rfl) rfl rfl rfl ?_
      exact o_sub (Sub.cons rfl (Sub.skip rfl (Sub.skip rfl (Sub.skip rfl (Sub.skip rfl (Sub.skip rfl (Sub.skip rfl (Sub.skip rfl (Sub.skip rfl (Sub.refl _)))))))))) hk
    · intro hb4 hk
      refine o_guard_no rfl 22 rfl rfl rfl rfl rfl ?_
      refine o_guard_no rfl 22 rfl rfl rfl rfl rfl ?_
      refine o_guard_no rfl 22 rfl rfl rfl rfl rfl ?_
      refine o_guard_no rfl 22 rfl rfl rfl rfl rfl ?_
      refine o_guard_no rfl 22 rfl rfl rfl rfl rfl ?_
      refine o_guard_no rfl 22 rfl rfl rfl rfl rfl ?_
      refine o_pure (p_pick_true (u := .bool true) rfl rfl) rfl rfl rfl ?_
      exact o_sub (Sub.cons rfl (Sub.skip rfl (Sub.skip rfl (Sub.skip rfl (Sub.skip rfl (Sub.skip rfl (Sub.skip rfl (Sub.skip rfl (Sub.skip rfl (Sub.refl _)))))))))) hk
    refine o_pure (p_assign (v := .bool (decide (t.near < (t.first.length : Int)) || decide (t.far < (t.rest.length : Int)))) rfl) rfl rfl rfl ?_
    refine o_nil ?_
    refine q_then ?_
    refine c_cond (b := (decide (t.near < (t.first.length : Int)) || decide (t.far < (t.rest.length : Int)))) rfl (fun hc5 => ?_) (fun hc5 => ?_)
    · simp only [Bool.or_eq_true, decide_eq_true_eq] at hc5
      refine c_seq ?_
      refine c_region ?_
      refine o_pure (p_assign (v := .int .i64 2) rfl) rfl rfl rfl ?_
      refine o_nil ?_
      refine q_then ?_
      refine c_ret ?_
      refine q_block_ret (q_then_ret ?_)
      have hr0 : (2 : Int) = (Tier.check t) := by
        first | exact Tier.chk1 (by assumption) | exact Tier.chk2 hrm (by omega) | exact Tier.chk3 hrm hln hkn | exact Tier.chk4 hrm hln hky (by omega) | exact Tier.chk5 hrm hln hky (by omega)
      refine q_end0 (v := .int .i64 2) (rt1 rfl (r_tmp rfl)) (i := 1) rfl ?_
      exact (by have hcc := congrArg (fun (y0 : Int) => (.int .i64 y0 : Value)) hr0; exact hcc)
    · simp only [Bool.or_eq_false_iff, decide_eq_false_iff_not, Int.not_lt] at hc5
      have hln : (t.first.length : Int) ≤ t.near ∧ (t.rest.length : Int) ≤ t.far := by omega
      refine c_skip ?_
      refine q_block_normal (q_then ?_)
      refine c_seq ?_
      refine c_seq ?_
      refine c_region ?_
      refine o_pure (p_fieldAddr (B := B1) (j := 0) (j' := 2) rfl fo76_2 rfl) rfl rfl rfl ?_
      refine o_pure (p_load (i := 0) (v := .slice at_0 t.first.length ct_0) rfl rfl sh30 rfl) rfl rfl rfl ?_
      refine o_pure (p_fieldAddr (B := B1) (j := 0) (j' := 3) rfl fo76_3 rfl) rfl rfl rfl ?_
      refine o_pure (p_load (i := 0) (v := .slice at_1 t.rest.length ct_1) rfl rfl sh30 rfl) rfl rfl rfl ?_
      refine o_buildSlice (m := 2) (T := tHdr) (L := [(⟨at_0, ct_0, t.first⟩ : Hdr), (⟨at_1, ct_1, t.rest⟩ : Hdr)]) (vs := [.slice at_0 t.first.length ct_0, .slice at_1 t.rest.length ct_1]) rfl rfl rfl rfl Try.underlying133 sz30 (by decide) ze30 rfl (by decide) rfl (fun S6 a7 => ?_)
      refine o_callM rfl (concat2_ok t.first at_0 ct_0 t.rest at_1 ct_1 a7 ([(⟨at_0, ct_0, t.first⟩ : Hdr), (⟨at_1, ct_1, t.rest⟩ : Hdr)].length) (by first | omega | (simp only [List.length_append]; omega))) hf67 (fun w hw => ⟨(rd_own (i := 0) rfl) w hw, (rd_base (i := 2) rfl ht_0) w hw, (rd_base (i := 2) rfl ht_1) w hw⟩) rfl (fun _ _ _ _ ha hA => SlO.agree ha hA) ?_
      rintro ⟨a11, c12⟩ S9
      refine o_know (fun w hw => own_len (i := 0) (T := tInt) hw rfl) (fun hlr13 => ?_)
      refine o_call0 (v := .int .i64 (Lru.keys (t.first ++ t.rest))) rfl (keys_ok (t.first ++ t.rest) a11 c12) hf71 (fun w hw => (rd_own (i := 0) rfl) w hw) rfl ?_
      refine o_pure (p_assign (v := .int .i64 (Lru.keys (t.first ++ t.rest))) rfl) rfl rfl rfl ?_
      refine o_nil ?_
      refine q_then ?_
      refine c_seq ?_
      refine c_region ?_
      refine o_pure (p_move (v := .int .i64 (Lru.keys (t.first ++ t.rest))) rfl) rfl rfl rfl ?_
      refine o_pure (p_ne (p := (Lru.keys (t.first ++ t.rest))) (q := 0) rfl rfl) rfl rfl rfl ?_
      refine o_nil ?_
      refine q_then ?_
      refine c_cond (b := ((Lru.keys (t.first ++ t.rest)) != 0)) rfl (fun hc14 => ?_) (fun hc14 => ?_)
      · simp only [bne_iff_ne, ne_eq] at hc14
        have hkn := hc14
        refine c_seq ?_
        refine c_region ?_
        refine o_pure (p_move (v := .int .i64 (Lru.keys (t.first ++ t.rest))) rfl) rfl rfl rfl ?_
        refine o_pure (p_assign (v := .int .i64 (Lru.keys (t.first ++ t.rest))) rfl) rfl rfl rfl ?_
        refine o_nil ?_
        refine q_then ?_
        refine c_ret ?_
        refine q_then_ret ?_
        have hr0 : ((Lru.keys (t.first ++ t.rest)) : Int) = (Tier.check t) := by
          first | exact Tier.chk1 (by assumption) | exact Tier.chk2 hrm (by omega) | exact Tier.chk3 hrm hln hkn | exact Tier.chk4 hrm hln hky (by omega) | exact Tier.chk5 hrm hln hky (by omega)
        refine q_end0 (v := .int .i64 (Lru.keys (t.first ++ t.rest))) (rt1 rfl (r_tmp rfl)) (i := 3) rfl ?_
        exact (by have hcc := congrArg (fun (y0 : Int) => (.int .i64 y0 : Value)) hr0; exact hcc)
      · simp only [bne_eq_false_iff_eq] at hc14
        have hky := hc14
        refine c_skip ?_
        refine q_then ?_
        refine c_seq ?_
        refine c_seq ?_
        refine c_region ?_
        refine o_pure (p_fieldAddr (B := B1) (j := 0) (j' := 3) rfl fo76_3 rfl) rfl rfl rfl ?_
        refine o_pure (p_load (i := 2) (v := .slice at_1 t.rest.length ct_1) rfl rfl sh30 rfl) rfl rfl rfl ?_
        refine o_pure (p_len_slice (len := t.rest.length) rfl rfl Try.underlying30) rfl rfl rfl ?_
        refine o_pure (p_gt (p := (t.rest.length : Int)) (q := 0) rfl rfl) rfl rfl rfl ?_
        refine o_pure (p_move (v := .bool (decide (0 < (t.rest.length : Int)))) rfl) rfl rfl rfl ?_
        refine o_and (p := 51) 7 (decide ((t.first.length : Int) < t.near)) ?_ ?_ ?_
        · intro hb15 hk
          simp only [decide_eq_true_eq] at hb15
          refine o_unguard 44 rfl rfl ?_
          refine o_pure (p_fieldAddr (B := B1) (j := 0) (j' := 2) rfl fo76_2 rfl) rfl rfl rfl ?_
          refine o_unguard 44 rfl rfl ?_
          refine o_pure (p_load (i := 2) (v := .slice at_0 t.first.length ct_0) rfl rfl sh30 rfl) rfl rfl rfl ?_
          refine o_unguard 44 rfl rfl ?_
          refine o_pure (p_len_slice (len := t.first.length) rfl rfl Try.underlying30) rfl rfl rfl ?_
          refine o_unguard 44 rfl rfl ?_
          refine o_pure (p_fieldAddr (B := B1) (j := 0) (j' := 0) rfl fo76_0 rfl) rfl rfl rfl ?_
          refine o_unguard 44 rfl rfl ?_
          refine o_pure (p_load (i := 2) (v := .int .i64 t.near) rfl rfl sh3 rfl) rfl rfl rfl ?_
          refine o_unguard 44 rfl rfl ?_
          refine o_pure (p_lt (p := (t.first.length : Int)) (q := t.near) rfl rfl) rfl rfl rfl ?_
          refine o_pure (p_pick_true (u := .bool (decide ((t.first.length : Int) < t.near))) rfl rfl) rfl rfl rfl ?_
          exact o_sub (Sub.cons rfl (Sub.skip rfl (Sub.skip rfl (Sub.skip rfl (Sub.skip rfl (Sub.skip rfl (Sub.skip rfl (Sub.skip rfl (Sub.skip rfl (Sub.refl _)))))))))) hk
        · intro hb15 hk
          refine o_guard_no rfl 44 rfl rfl rfl rfl rfl ?_
          refine o_guard_no rfl 44 rfl rfl rfl rfl rfl ?_
          refine o_guard_no rfl 44 rfl rfl rfl rfl rfl ?_
          refine o_guard_no rfl 44 rfl rfl rfl rfl rfl ?_
          refine o_guard_no rfl 44 rfl rfl rfl rfl rfl ?_
          refine o_guard_no rfl 44 rfl rfl rfl rfl rfl ?_
          refine o_pure (p_pick_false (v := .bool false) rfl rfl) rfl rfl rfl ?_
          exact o_sub (Sub.cons rfl (Sub.skip rfl (Sub.skip rfl (Sub.skip rfl (Sub.skip rfl (Sub.skip rfl (Sub.skip rfl (Sub.skip rfl (Sub.skip rfl (Sub.refl _)))))))))) hk
        refine o_nil ?_
        refine q_then ?_
        refine c_cond (b := (decide (0 < (t.rest.length : Int)) && decide ((t.first.length : Int) < t.near))) rfl (fun hc16 => ?_) (fun hc16 => ?_)
        · simp only [Bool.and_eq_true, decide_eq_true_eq] at hc16
          refine c_seq ?_
          refine c_region ?_
          refine o_pure (p_assign (v := .int .i64 4) rfl) rfl rfl rfl ?_
          refine o_nil ?_
          refine q_then ?_
          refine c_ret ?_
          refine q_then_ret ?_
          have hr0 : (4 : Int) = (Tier.check t) := by
            first | exact Tier.chk1 (by assumption) | exact Tier.chk2 hrm (by omega) | exact Tier.chk3 hrm hln hkn | exact Tier.chk4 hrm hln hky (by omega) | exact Tier.chk5 hrm hln hky (by omega)
          refine q_end0 (v := .int .i64 4) (rt1 rfl (r_tmp rfl)) (i := 3) rfl ?_
          exact (by have hcc := congrArg (fun (y0 : Int) => (.int .i64 y0 : Value)) hr0; exact hcc)
        · simp only [Bool.and_eq_false_iff, decide_eq_false_iff_not, Int.not_lt] at hc16
          refine c_skip ?_
          refine q_then ?_
          refine c_seq ?_
          refine c_region ?_
          refine o_pure (p_assign (v := .int .i64 0) rfl) rfl rfl rfl ?_
          refine o_nil ?_
          refine q_then ?_
          refine c_ret ?_
          have hr0 : (0 : Int) = (Tier.check t) := by
            first | exact Tier.chk1 (by assumption) | exact Tier.chk2 hrm (by omega) | exact Tier.chk3 hrm hln hkn | exact Tier.chk4 hrm hln hky (by omega) | exact Tier.chk5 hrm hln hky (by omega)
          refine q_end0 (v := .int .i64 0) (rt1 rfl (r_tmp rfl)) (i := 3) rfl ?_
          exact (by have hcc := congrArg (fun (y0 : Int) => (.int .i64 y0 : Value)) hr0; exact hcc)
end Go.Proofs.Ytkndekkacimekaa
