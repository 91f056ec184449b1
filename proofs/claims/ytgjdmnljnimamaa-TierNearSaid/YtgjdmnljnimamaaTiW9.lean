/- The walks, printed by a program from the translation and a specification. -/
import Derived.Test.YtgjdmnljnimamaaTiF
import Derived.Test.YtgjdmnljnimamaaTiLaw
import Derived.Test.YtgjdmnljnimamaaTiW3
namespace Go.Proofs.Ytgjdmnljnimamaa
open Go.Sx Go.RowKit
set_option maxHeartbeats 8000000 in
set_option maxRecDepth 100000 in
theorem rtcheck_ok (t : DTiers) (at_0 : Option Addr) (ct_0 : Nat) (at_1 : Option Addr) (ct_1 : Nat) : Fn0 Try.prog 30 [.agg #[.int .i64 t.near, .int .i64 t.far, .slice at_0 t.first.length ct_0, .slice at_1 t.rest.length ct_1]] (fun w => Rd tInt w at_0 ct_0 t.first ∧ Rd tInt w at_1 ct_1 t.rest) (.int .i64 (Tier.check t)) := by
  refine fn0 (nt := 53) (F0 := [(0, .agg #[.int .i64 t.near, .int .i64 t.far, .slice at_0 t.first.length ct_0, .slice at_1 t.rest.length ct_1])]) Try.func30 rfl Try.ntmps30 rfl rfl (fun w0 hpre => ?_)
  obtain ⟨ht_0, ht_1⟩ := hpre
  have hlht_0 := ht_0.2.1
  have hlht_1 := ht_1.2.1
  refine c_seq ?_
  refine c_region ?_
  refine o_box (v := .agg #[.int .i64 t.near, .int .i64 t.far, .slice at_0 t.first.length ct_0, .slice at_1 t.rest.length ct_1]) rfl rfl (fun B1 => ?_)
  refine o_pure (p_assign (v := .int .i64 0) rfl) rfl rfl rfl ?_
  refine o_nil ?_
  refine q_then ?_
  refine c_seq ?_
  refine c_seq ?_
  refine c_region ?_
  refine o_pure (p_fieldAddr (B := B1) (j := 0) (j' := 0) rfl fo43_0 rfl) rfl rfl rfl ?_
  refine o_pure (p_load (i := 0) (v := .int .i64 t.near) rfl rfl sh3 rfl) rfl rfl rfl ?_
  refine o_call0 (v := .bool (Ref.between t.near (1 : Int) (20 : Int))) rfl (between_ok t.near (1 : Int) (20 : Int)) hf57 (fun _ _ => trivial) rfl ?_
  refine o_pure (p_not (b := (Ref.between t.near (1 : Int) (20 : Int))) rfl) rfl rfl rfl ?_
  refine o_pure (p_move (v := .bool (!(Ref.between t.near (1 : Int) (20 : Int)))) rfl) rfl rfl rfl ?_
  refine o_or (p := 13) 5 (!(Ref.between t.far (1 : Int) (20 : Int))) ?_ ?_ ?_
  · intro hb2 hk
    simp only [Bool.not_eq_false'] at hb2
    refine o_unguard 8 rfl rfl ?_
    refine o_pure (p_fieldAddr (B := B1) (j := 0) (j' := 1) rfl fo43_1 rfl) rfl rfl rfl ?_
    refine o_unguard 8 rfl rfl ?_
    refine o_pure (p_load (i := 0) (v := .int .i64 t.far) rfl rfl sh3 rfl) rfl rfl rfl ?_
    refine o_unguard 8 rfl rfl ?_
    refine o_call0 (v := .bool (Ref.between t.far (1 : Int) (20 : Int))) rfl (between_ok t.far (1 : Int) (20 : Int)) hf57 (fun _ _ => trivial) rfl ?_
    refine o_unguard 8 rfl rfl ?_
    refine o_pure (p_not (b := (Ref.between t.far (1 : Int) (20 : Int))) rfl) rfl rfl rfl ?_
    refine o_pure (p_pick_false (v := .bool (!(Ref.between t.far (1 : Int) (20 : Int)))) rfl rfl) rfl rfl rfl ?_
    exact o_sub (Sub.cons rfl (Sub.skip rfl (Sub.skip rfl (Sub.skip rfl (Sub.skip rfl (Sub.skip rfl (Sub.skip rfl (Sub.refl _)))))))) hk
  · intro hb2 hk
    refine o_guard_no rfl 8 rfl rfl rfl rfl rfl ?_
    refine o_guard_no rfl 8 rfl rfl rfl rfl rfl ?_
    refine o_guard_no rfl 8 rfl rfl rfl rfl rfl ?_
    refine o_guard_no rfl 8 rfl rfl rfl rfl rfl ?_
    refine o_pure (p_pick_true (u := .bool true) rfl rfl) rfl rfl rfl ?_
    exact o_sub (Sub.cons rfl (Sub.skip rfl (Sub.skip rfl (Sub.skip rfl (Sub.skip rfl (Sub.skip rfl (Sub.skip rfl (Sub.refl _)))))))) hk
  refine o_nil ?_
  refine q_then ?_
  refine c_cond (b := ((!(Ref.between t.near (1 : Int) (20 : Int))) || (!(Ref.between t.far (1 : Int) (20 : Int))))) rfl (fun hc3 => ?_) (fun hc3 => ?_)
  · simp only [Bool.or_eq_true, Bool.not_eq_true'] at hc3
    have hrx : Tier.okRoom t.near = false ∨ Tier.okRoom t.far = false := hc3
    refine c_seq ?_
    refine c_region ?_
    refine o_pure (p_assign (v := .int .i64 3) rfl) rfl rfl rfl ?_
    refine o_nil ?_
    refine q_then ?_
    refine c_ret ?_
    refine q_then_ret ?_
    have hr0 : (3 : Int) = (Tier.check t) := by
      first | exact Tier.chk1 hrx | exact Tier.chk2 hrm (by omega) | exact Tier.chk4 hrm hln hkx.1.1 (by omega) | exact Tier.chk6 hrm hln hkx
    refine q_end0 (v := .int .i64 3) (rt1 rfl (r_tmp rfl)) (i := 1) rfl ?_
    exact (by have hcc := congrArg (fun (y0 : Int) => (.int .i64 y0 : Value)) hr0; exact hcc)
  · simp only [Bool.or_eq_false_iff, Bool.not_eq_false'] at hc3
    have hrm : Tier.okRoom t.near = true ∧ Tier.okRoom t.far = true := hc3
    have hrn := Tier.room_bd hrm.1
    have hrf := Tier.room_bd hrm.2
    refine c_skip ?_
    refine q_then ?_
    refine c_seq ?_
    refine c_seq ?_
    refine c_region ?_
    refine o_pure (p_fieldAddr (B := B1) (j := 0) (j' := 2) rfl fo43_2 rfl) rfl rfl rfl ?_
    refine o_pure (p_load (i := 0) (v := .slice at_0 t.first.length ct_0) rfl rfl sh23 rfl) rfl rfl rfl ?_
    refine o_pure (p_len_slice (len := t.first.length) rfl rfl Try.underlying23) rfl rfl rfl ?_
    refine o_pure (p_fieldAddr (B := B1) (j := 0) (j' := 0) rfl fo43_0 rfl) rfl rfl rfl ?_
    refine o_pure (p_load (i := 0) (v := .int .i64 t.near) rfl rfl sh3 rfl) rfl rfl rfl ?_
    refine o_pure (p_gt (p := (t.first.length : Int)) (q := t.near) rfl rfl) rfl rfl rfl ?_
    refine o_pure (p_move (v := .bool (decide (t.near < (t.first.length : Int)))) rfl) rfl rfl rfl ?_
    refine o_or (p := 27) 7 (decide (t.far < (t.rest.length : Int))) ?_ ?_ ?_
    · intro hb4 hk
      simp only [decide_eq_false_iff_not, Int.not_lt] at hb4
      refine o_unguard 20 rfl rfl ?_
      refine o_pure (p_fieldAddr (B := B1) (j := 0) (j' := 3) rfl fo43_3 rfl) rfl rfl rfl ?_
      refine o_unguard 20 rfl rfl ?_
      refine o_pure (p_load (i := 0) (v := .slice at_1 t.rest.length ct_1) rfl rfl sh23 rfl) rfl rfl rfl ?_
      refine o_unguard 20 rfl rfl ?_
      refine o_pure (p_len_slice (len := t.rest.length) rfl rfl Try.underlying23) rfl rfl rfl ?_
      refine o_unguard 20 rfl rfl ?_
      refine o_pure (p_fieldAddr (B := B1) (j := 0) (j' := 1) rfl fo43_1 rfl) rfl rfl rfl ?_
      refine o_unguard 20 rfl rfl ?_
      refine o_pure (p_load (i := 0) (v := .int .i64 t.far) rfl rfl sh3 rfl) rfl rfl rfl ?_
      refine o_unguard 20 rfl rfl ?_
      refine o_pure (p_gt (p := (t.rest.length : Int)) (q := t.far) rfl rfl) rfl rfl rfl ?_
      refine o_pure (p_pick_false (v := .bool (decide (t.far < (t.rest.length : Int)))) rfl rfl) rfl rfl rfl ?_
      exact o_sub (Sub.cons rfl (Sub.skip rfl (Sub.skip rfl (Sub.skip rfl (Sub.skip rfl (Sub.skip rfl (Sub.skip rfl (Sub.skip rfl (Sub.skip rfl (Sub.refl _)))))))))) hk
    · intro hb4 hk
      refine o_guard_no rfl 20 rfl rfl rfl rfl rfl ?_
      refine o_guard_no rfl 20 rfl rfl rfl rfl rfl ?_
      refine o_guard_no rfl 20 rfl rfl rfl rfl rfl ?_
      refine o_guard_no rfl 20 rfl rfl rfl rfl rfl ?_
      refine o_guard_no rfl 20 rfl rfl rfl rfl rfl ?_
      refine o_guard_no rfl 20 rfl rfl rfl rfl rfl ?_
      refine o_pure (p_pick_true (u := .bool true) rfl rfl) rfl rfl rfl ?_
      exact o_sub (Sub.cons rfl (Sub.skip rfl (Sub.skip rfl (Sub.skip rfl (Sub.skip rfl (Sub.skip rfl (Sub.skip rfl (Sub.skip rfl (Sub.skip rfl (Sub.refl _)))))))))) hk
    refine o_nil ?_
    refine q_then ?_
    refine c_cond (b := (decide (t.near < (t.first.length : Int)) || decide (t.far < (t.rest.length : Int)))) rfl (fun hc5 => ?_) (fun hc5 => ?_)
    · simp only [Bool.or_eq_true, decide_eq_true_eq] at hc5
      refine c_seq ?_
      refine c_region ?_
      refine o_pure (p_assign (v := .int .i64 2) rfl) rfl rfl rfl ?_
      refine o_nil ?_
      refine q_then ?_
      refine c_ret ?_
      refine q_then_ret ?_
      have hr0 : (2 : Int) = (Tier.check t) := by
        first | exact Tier.chk1 hrx | exact Tier.chk2 hrm (by omega) | exact Tier.chk4 hrm hln hkx.1.1 (by omega) | exact Tier.chk6 hrm hln hkx
      refine q_end0 (v := .int .i64 2) (rt1 rfl (r_tmp rfl)) (i := 1) rfl ?_
      exact (by have hcc := congrArg (fun (y0 : Int) => (.int .i64 y0 : Value)) hr0; exact hcc)
    · simp only [Bool.or_eq_false_iff, decide_eq_false_iff_not, Int.not_lt] at hc5
      have hln : (t.first.length : Int) ≤ t.near ∧ (t.rest.length : Int) ≤ t.far := by omega
      refine c_skip ?_
      refine q_then ?_
      refine c_seq ?_
      refine c_held hmix [box B1 [.int .i64 t.near, .int .i64 t.far, .slice at_0 t.first.length ct_0, .slice at_1 t.rest.length ct_1] 43, base w0] rfl rfl ?_
      refine h_take (i := 1) (ls := #[false, true, false, false, false, false, false, false, false]) rfl (by kernel_rfl) (by kernel_rfl) (by kernel_rfl) (fun _ _ _ h => h) (p_fieldAddr (B := B1) (j := 0) (j' := 2) rfl fo43_2 rfl) rfl rfl rfl (fun _ hw => HeapIs.drop hw (List.Sublist.refl _)) rfl ?_
      refine h_take (i := 2) (ls := #[false, true, true, false, false, false, false, false, false]) rfl (by kernel_rfl) (by kernel_rfl) (by kernel_rfl) (fun _ _ _ h => h) (p_load (i := 0) (v := .slice at_0 t.first.length ct_0) rfl rfl sh23 rfl) rfl rfl rfl (fun _ hw => HeapIs.drop hw (List.Sublist.refl _)) rfl ?_
      refine h_take (i := 4) (ls := #[false, true, true, false, true, false, false, false, false]) rfl (by kernel_rfl) (by kernel_rfl) (by kernel_rfl) (fun _ _ _ h => h) (p_fieldAddr (B := B1) (j := 0) (j' := 3) rfl fo43_3 rfl) rfl rfl rfl (fun _ hw => HeapIs.drop hw (List.Sublist.refl _)) rfl ?_
      refine h_take (i := 5) (ls := #[false, true, true, false, true, true, false, false, false]) rfl (by kernel_rfl) (by kernel_rfl) (by kernel_rfl) (fun _ _ _ h => h) (p_load (i := 0) (v := .slice at_1 t.rest.length ct_1) rfl rfl sh23 rfl) rfl rfl rfl (fun _ hw => HeapIs.drop hw (List.Sublist.refl _)) rfl ?_
      refine h_one (i := 0) (ls := #[true, true, true, false, true, true, false, false, false]) (by kernel_rfl) rfl rfl ?_
      refine o_buildSlice (m := 0) (T := tInt) (L := []) (vs := []) rfl rfl rfl rfl Try.underlying23 sz3 (by decide) ze3 rfl (by decide) rfl (fun S6_0 a6_0 => ?_)
      refine o_nil ?_
      refine h_next (fun _ hw => HeapIs.drop hw (List.Sublist.cons _ (List.Sublist.cons_cons _ (List.Sublist.cons_cons _ (List.Sublist.slnil))))) ?_
      refine h_one (i := 3) (ls := #[true, true, true, true, true, true, false, false, false]) (by kernel_rfl) rfl rfl ?_
      refine o_append (i := 0) (L := []) (M := t.first) (T := tInt) rfl rfl rfl (rd_base (i := 2) rfl ht_0) Try.underlying23 Try.underlying23 (by intro k h; cases h) el3 (by intro z; simp [tInt, one1]) (by decide) (by first | omega | (simp only [List.length_cons, List.length_nil]; omega) | (simp only [List.length_append, List.length_cons, List.length_nil, List.length_take, List.length_drop]; omega)) rfl (fun a6_3 c6_3 S6_3 => ?_)
      refine o_nil ?_
      refine h_next (fun _ hw => HeapIs.drop hw (List.Sublist.cons _ (List.Sublist.cons_cons _ (List.Sublist.cons_cons _ (List.Sublist.slnil))))) ?_
      refine h_one (i := 6) (ls := #[true, true, true, true, true, true, true, false, false]) (by kernel_rfl) rfl rfl ?_
      refine o_append (i := 0) (L := t.first) (M := t.rest) (T := tInt) rfl rfl rfl (rd_base (i := 2) rfl ht_1) Try.underlying23 Try.underlying23 (by intro k h; cases h) el3 (by intro z; simp [tInt, one1]) (by decide) (by first | omega | (simp only [List.length_cons, List.length_nil]; omega) | (simp only [List.length_append, List.length_cons, List.length_nil, List.length_take, List.length_drop]; omega)) rfl (fun a6_6 c6_6 S6_6 => ?_)
      refine o_nil ?_
      refine h_next (fun _ hw => HeapIs.drop hw (List.Sublist.cons _ (List.Sublist.cons_cons _ (List.Sublist.cons_cons _ (List.Sublist.slnil))))) ?_
      refine h_one (i := 7) (ls := #[true, true, true, true, true, true, true, true, false]) (by kernel_rfl) rfl rfl ?_
      refine o_call0 (v := .int .i64 (Lru.keys (t.first ++ t.rest))) rfl (keysOnce_ok (t.first ++ t.rest) a6_6 c6_6) hf63 (fun w hw => (rd_own (i := 0) rfl) w hw) rfl ?_
      refine o_nil ?_
      refine h_next (fun _ hw => HeapIs.drop hw (List.Sublist.cons _ (List.Sublist.cons_cons _ (List.Sublist.cons_cons _ (List.Sublist.slnil))))) ?_
      refine h_take (i := 8) (ls := #[true, true, true, true, true, true, true, true, true]) rfl (by kernel_rfl) (by kernel_rfl) (by kernel_rfl) (fun _ _ _ h => h) (p_assign (v := .int .i64 (Lru.keys (t.first ++ t.rest))) rfl) rfl rfl rfl (fun _ hw => HeapIs.drop hw (List.Sublist.cons _ (List.Sublist.cons_cons _ (List.Sublist.cons_cons _ (List.Sublist.slnil))))) rfl ?_
      refine h_done (by kernel_rfl) ?_
      refine q_then ?_
      refine c_seq ?_
      refine c_seq ?_
      refine c_region ?_
      refine o_pure (p_move (v := .int .i64 (Lru.keys (t.first ++ t.rest))) rfl) rfl rfl rfl ?_
      refine o_pure (p_eq (p := (Lru.keys (t.first ++ t.rest))) (q := 0) rfl rfl) rfl rfl rfl ?_
      refine o_pure (p_move (v := .bool ((Lru.keys (t.first ++ t.rest)) == 0)) rfl) rfl rfl rfl ?_
      refine o_and (p := 43) 5 (decide (0 < (t.rest.length : Int))) ?_ ?_ ?_
      · intro hb7 hk
        simp only [beq_iff_eq] at hb7
        refine o_unguard 38 rfl rfl ?_
        refine o_pure (p_fieldAddr (B := B1) (j := 0) (j' := 3) rfl fo43_3 rfl) rfl rfl rfl ?_
        refine o_unguard 38 rfl rfl ?_
        refine o_pure (p_load (i := 1) (v := .slice at_1 t.rest.length ct_1) rfl rfl sh23 rfl) rfl rfl rfl ?_
        refine o_unguard 38 rfl rfl ?_
        refine o_pure (p_len_slice (len := t.rest.length) rfl rfl Try.underlying23) rfl rfl rfl ?_
        refine o_unguard 38 rfl rfl ?_
        refine o_pure (p_gt (p := (t.rest.length : Int)) (q := 0) rfl rfl) rfl rfl rfl ?_
        refine o_pure (p_pick_true (u := .bool (decide (0 < (t.rest.length : Int)))) rfl rfl) rfl rfl rfl ?_
        exact o_sub (Sub.cons rfl (Sub.skip rfl (Sub.skip rfl (Sub.skip rfl (Sub.skip rfl (Sub.skip rfl (Sub.skip rfl (Sub.refl _)))))))) hk
      · intro hb7 hk
        refine o_guard_no rfl 38 rfl rfl rfl rfl rfl ?_
        refine o_guard_no rfl 38 rfl rfl rfl rfl rfl ?_
        refine o_guard_no rfl 38 rfl rfl rfl rfl rfl ?_
        refine o_guard_no rfl 38 rfl rfl rfl rfl rfl ?_
        refine o_pure (p_pick_false (v := .bool false) rfl rfl) rfl rfl rfl ?_
        exact o_sub (Sub.cons rfl (Sub.skip rfl (Sub.skip rfl (Sub.skip rfl (Sub.skip rfl (Sub.skip rfl (Sub.skip rfl (Sub.refl _)))))))) hk
      refine o_pure (p_move (v := .bool (((Lru.keys (t.first ++ t.rest)) == 0) && decide (0 < (t.rest.length : Int)))) rfl) rfl rfl rfl ?_
      refine o_and (p := 51) 7 (decide ((t.first.length : Int) < t.near)) ?_ ?_ ?_
      · intro hb8 hk
        simp only [Bool.and_eq_true, beq_iff_eq, decide_eq_true_eq] at hb8
        refine o_unguard 44 rfl rfl ?_
        refine o_pure (p_fieldAddr (B := B1) (j := 0) (j' := 2) rfl fo43_2 rfl) rfl rfl rfl ?_
        refine o_unguard 44 rfl rfl ?_
        refine o_pure (p_load (i := 1) (v := .slice at_0 t.first.length ct_0) rfl rfl sh23 rfl) rfl rfl rfl ?_
        refine o_unguard 44 rfl rfl ?_
        refine o_pure (p_len_slice (len := t.first.length) rfl rfl Try.underlying23) rfl rfl rfl ?_
        refine o_unguard 44 rfl rfl ?_
        refine o_pure (p_fieldAddr (B := B1) (j := 0) (j' := 0) rfl fo43_0 rfl) rfl rfl rfl ?_
        refine o_unguard 44 rfl rfl ?_
        refine o_pure (p_load (i := 1) (v := .int .i64 t.near) rfl rfl sh3 rfl) rfl rfl rfl ?_
        refine o_unguard 44 rfl rfl ?_
        refine o_pure (p_lt (p := (t.first.length : Int)) (q := t.near) rfl rfl) rfl rfl rfl ?_
        refine o_pure (p_pick_true (u := .bool (decide ((t.first.length : Int) < t.near))) rfl rfl) rfl rfl rfl ?_
        exact o_sub (Sub.cons rfl (Sub.skip rfl (Sub.skip rfl (Sub.skip rfl (Sub.skip rfl (Sub.skip rfl (Sub.skip rfl (Sub.skip rfl (Sub.skip rfl (Sub.refl _)))))))))) hk
      · intro hb8 hk
        refine o_guard_no rfl 44 rfl rfl rfl rfl rfl ?_
        refine o_guard_no rfl 44 rfl rfl rfl rfl rfl ?_
        refine o_guard_no rfl 44 rfl rfl rfl rfl rfl ?_
        refine o_guard_no rfl 44 rfl rfl rfl rfl rfl ?_
        refine o_guard_no rfl 44 rfl rfl rfl rfl rfl ?_
        refine o_guard_no rfl 44 rfl rfl rfl rfl rfl ?_
        refine o_pure (p_pick_false (v := .bool false) rfl rfl) rfl rfl rfl ?_
        exact o_sub (Sub.cons rfl (Sub.skip rfl (Sub.skip rfl (Sub.skip rfl (Sub.skip rfl (Sub.skip rfl (Sub.skip rfl (Sub.skip rfl (Sub.skip rfl (Sub.refl _)))))))))) hk
      refine o_nil ?_
      refine q_then ?_
      refine c_cond (b := ((((Lru.keys (t.first ++ t.rest)) == 0) && decide (0 < (t.rest.length : Int))) && decide ((t.first.length : Int) < t.near))) rfl (fun hc9 => ?_) (fun hc9 => ?_)
      · simp only [Bool.and_eq_true, beq_iff_eq, decide_eq_true_eq] at hc9
        have hkx := hc9
        refine c_region ?_
        refine o_pure (p_assign (v := .int .i64 4) rfl) rfl rfl rfl ?_
        refine o_nil ?_
        refine q_then ?_
        refine c_seq ?_
        refine c_region ?_
        refine o_pure (p_move (v := .int .i64 4) rfl) rfl rfl rfl ?_
        refine o_pure (p_assign (v := .int .i64 4) rfl) rfl rfl rfl ?_
        refine o_nil ?_
        refine q_then ?_
        refine c_ret ?_
        have hr0 : (4 : Int) = (Tier.check t) := by
          first | exact Tier.chk1 hrx | exact Tier.chk2 hrm (by omega) | exact Tier.chk4 hrm hln hkx.1.1 (by omega) | exact Tier.chk6 hrm hln hkx
        refine q_end0 (v := .int .i64 4) (rt1 rfl (r_tmp rfl)) (i := 2) rfl ?_
        exact (by have hcc := congrArg (fun (y0 : Int) => (.int .i64 y0 : Value)) hr0; exact hcc)
      · simp only [Bool.and_eq_false_iff, beq_eq_false_iff_ne, ne_eq, decide_eq_false_iff_not, Int.not_lt] at hc9
        have hkx := hc9
        refine c_skip ?_
        refine q_then ?_
        refine c_seq ?_
        refine c_region ?_
        refine o_pure (p_move (v := .int .i64 (Lru.keys (t.first ++ t.rest))) rfl) rfl rfl rfl ?_
        refine o_pure (p_assign (v := .int .i64 (Lru.keys (t.first ++ t.rest))) rfl) rfl rfl rfl ?_
        refine o_nil ?_
        refine q_then ?_
        refine c_ret ?_
        have hr0 : ((Lru.keys (t.first ++ t.rest)) : Int) = (Tier.check t) := by
          first | exact Tier.chk1 hrx | exact Tier.chk2 hrm (by omega) | exact Tier.chk4 hrm hln hkx.1.1 (by omega) | exact Tier.chk6 hrm hln hkx
        refine q_end0 (v := .int .i64 (Lru.keys (t.first ++ t.rest))) (rt1 rfl (r_tmp rfl)) (i := 2) rfl ?_
        exact (by have hcc := congrArg (fun (y0 : Int) => (.int .i64 y0 : Value)) hr0; exact hcc)

set_option maxHeartbeats 8000000 in
set_option maxRecDepth 100000 in
theorem rttouch_ok (t : DTiers) (at_0 : Option Addr) (ct_0 : Nat) (at_1 : Option Addr) (ct_1 : Nat) (key : Int) (hy1 : Tier.Ok t ∧ Lru.okKey key = true) : FnX Try.prog 31 [.agg #[.int .i64 t.near, .int .i64 t.far, .slice at_0 t.first.length ct_0, .slice at_1 t.rest.length ct_1], .int .i64 key] [] (fun w => SlR tInt (outer w []).S w at_0 ct_0 t.first ∧ SlR tInt (outer w []).S w at_1 ct_1 t.rest) (Option Addr × Nat × (Nat → Prop) × Option Addr × Nat × (Nat → Prop)) (fun p => .tuple #[.agg #[.int .i64 (((Tier.touch t key).1).near), .int .i64 (((Tier.touch t key).1).far), .slice p.1 (((Tier.touch t key).1).first).length p.2.1, .slice p.2.2.2.1 (((Tier.touch t key).1).rest).length p.2.2.2.2.1], .int .i64 (Tier.place t key), .int .i64 (Tier.gone t key)]) (fun p => [own tInt p.2.2.1 p.1 p.2.1 (((Tier.touch t key).1).first), own tInt p.2.2.2.2.2 p.2.2.2.1 p.2.2.2.2.1 (((Tier.touch t key).1).rest)]) := by
  refine fnX (nt := 107) (F0 := [(0, .agg #[.int .i64 t.near, .int .i64 t.far, .slice at_0 t.first.length ct_0, .slice at_1 t.rest.length ct_1]), (1, .int .i64 key)]) Try.func31 rfl Try.ntmps31 rfl rfl (fun w0 hpre => ?_)
  obtain ⟨ht_0, ht_1⟩ := hpre
  have hlht_0 := ht_0.2.1
  have hlht_1 := ht_1.2.1
  have hnr := hy1.1.near
  have hfr := hy1.1.far
  have hl1 := hy1.1.len1
  have hl2 := hy1.1.len2
  refine c_seq ?_
  refine c_region ?_
  refine o_box (v := .agg #[.int .i64 t.near, .int .i64 t.far, .slice at_0 t.first.length ct_0, .slice at_1 t.rest.length ct_1]) rfl rfl (fun B1 => ?_)
  refine o_alloc ze43 rfl (fun B2 => ?_)
  refine o_pure (p_assign (v := .int .i64 0) rfl) rfl rfl rfl ?_
  refine o_pure (p_assign (v := .int .i64 0) rfl) rfl rfl rfl ?_
  refine o_nil ?_
  refine q_then ?_
  refine c_seq ?_
  refine c_region ?_
  refine o_pure (p_assign (v := .int .i64 0) rfl) rfl rfl rfl ?_
  refine o_nil ?_
  refine q_then ?_
  refine c_seq ?_
  refine c_seq ?_
  refine c_region ?_
  refine o_pure (p_fieldAddr (B := B1) (j := 0) (j' := 2) rfl fo43_2 rfl) rfl rfl rfl ?_
  refine o_pure (p_load (i := 1) (v := .slice at_0 t.first.length ct_0) rfl rfl sh23 rfl) rfl rfl rfl ?_
  refine o_pure (p_move (v := .int .i64 key) rfl) rfl rfl rfl ?_
  refine o_call0 (v := .bool (Ref.hasInt t.first key)) rfl (hasInt_ok t.first at_0 ct_0 key) hf36 (fun w hw => (rd_outer (i := 2) rfl ht_0) w hw) rfl ?_
  refine o_nil ?_
  refine q_then ?_
  refine c_join (G := Int)
    (fun wh => [(1, .int .i64 key), (2, .pointer (some ⟨B1, 0, none⟩)), (4, .pointer (some ⟨B2, 0, none⟩)), (7, .int .i64 wh)])
    (fun wh => [box B2 [.int .i64 0, .int .i64 0, .slice none 0 0, .slice none 0 0] 43, box B1 [.int .i64 t.near, .int .i64 t.far, .slice at_0 t.first.length ct_0, .slice at_1 t.rest.length ct_1] 43, outer w0 []])
    (fun wh => wh = if Ref.hasInt t.first key = true then 1 else 0)
    (fun K hK3 => ?_) ?_
  · refine c_cond (b := (Ref.hasInt t.first key)) rfl (fun hc4 => ?_) (fun hc4 => ?_)
    · skip
      refine c_region ?_
      refine o_pure (p_assign (v := .int .i64 1) rfl) rfl rfl rfl ?_
      refine o_nil ?_
      refine q_join hK3 1 ?_ (Sub.cons rfl (Sub.cons rfl (Sub.cons rfl (Sub.cons rfl (Sub.nil _))))) (fun _ hw => HeapIs.pick hw [0, 1, 2] (by decide) rfl)
      clear hK3
      first | (rw [if_pos (by assumption)]; done) | (rw [if_neg (by simp_all)]; done)
    · skip
      refine c_skip ?_
      refine q_join hK3 0 ?_ (Sub.cons rfl (Sub.cons rfl (Sub.cons rfl (Sub.cons rfl (Sub.nil _))))) (fun _ hw => HeapIs.pick hw [0, 1, 2] (by decide) rfl)
      clear hK3
      first | (rw [if_pos (by assumption)]; done) | (rw [if_neg (by simp_all)]; done)
  rintro wh hw1
  show SQ _ 107 w0 _ _ [(1, .int .i64 key), (2, .pointer (some ⟨B1, 0, none⟩)), (4, .pointer (some ⟨B2, 0, none⟩)), (7, .int .i64 wh)] [box B2 [.int .i64 0, .int .i64 0, .slice none 0 0, .slice none 0 0] 43, box B1 [.int .i64 t.near, .int .i64 t.far, .slice at_0 t.first.length ct_0, .slice at_1 t.rest.length ct_1] 43, outer w0 []]
  refine q_then ?_
  refine c_seq ?_
  refine c_seq ?_
  refine c_region ?_
  refine o_pure (p_fieldAddr (B := B1) (j := 0) (j' := 3) rfl fo43_3 rfl) rfl rfl rfl ?_
  refine o_pure (p_load (i := 1) (v := .slice at_1 t.rest.length ct_1) rfl rfl sh23 rfl) rfl rfl rfl ?_
  refine o_pure (p_move (v := .int .i64 key) rfl) rfl rfl rfl ?_
  refine o_call0 (v := .bool (Ref.hasInt t.rest key)) rfl (hasInt_ok t.rest at_1 ct_1 key) hf36 (fun w hw => (rd_outer (i := 2) rfl ht_1) w hw) rfl ?_
  refine o_nil ?_
  refine q_then ?_
  refine c_join (G := Int)
    (fun wh2 => [(1, .int .i64 key), (2, .pointer (some ⟨B1, 0, none⟩)), (4, .pointer (some ⟨B2, 0, none⟩)), (7, .int .i64 wh2)])
    (fun wh2 => [box B2 [.int .i64 0, .int .i64 0, .slice none 0 0, .slice none 0 0] 43, box B1 [.int .i64 t.near, .int .i64 t.far, .slice at_0 t.first.length ct_0, .slice at_1 t.rest.length ct_1] 43, outer w0 []])
    (fun wh2 => wh2 = Tier.place t key)
    (fun K hK5 => ?_) ?_
  · refine c_cond (b := (Ref.hasInt t.rest key)) rfl (fun hc6 => ?_) (fun hc6 => ?_)
    · skip
      refine c_region ?_
      refine o_pure (p_assign (v := .int .i64 2) rfl) rfl rfl rfl ?_
      refine o_nil ?_
      refine q_join hK5 2 ?_ (Sub.cons rfl (Sub.cons rfl (Sub.cons rfl (Sub.cons rfl (Sub.nil _))))) (fun _ hw => HeapIs.pick hw [0, 1, 2] (by decide) rfl)
      clear hK5
      exact Tier.place_j hw1 hy1.1 (by assumption) rfl
    · skip
      refine c_skip ?_
      refine q_join hK5 wh ?_ (Sub.cons rfl (Sub.cons rfl (Sub.cons rfl (Sub.cons rfl (Sub.nil _))))) (fun _ hw => HeapIs.pick hw [0, 1, 2] (by decide) rfl)
      clear hK5
      exact Tier.place_j hw1 hy1.1 (by assumption) rfl
  rintro wh2 hw2
  show SQ _ 107 w0 _ _ [(1, .int .i64 key), (2, .pointer (some ⟨B1, 0, none⟩)), (4, .pointer (some ⟨B2, 0, none⟩)), (7, .int .i64 wh2)] [box B2 [.int .i64 0, .int .i64 0, .slice none 0 0, .slice none 0 0] 43, box B1 [.int .i64 t.near, .int .i64 t.far, .slice at_0 t.first.length ct_0, .slice at_1 t.rest.length ct_1] 43, outer w0 []]
  refine q_then ?_
  refine c_seq ?_
  refine c_region ?_
  refine o_pure (p_move (v := .int .i64 key) rfl) rfl rfl rfl ?_
  refine o_buildSlice (m := 1) (T := tInt) (L := [key]) (vs := [.int .i64 key]) rfl rfl rfl rfl Try.underlying23 sz3 (by decide) ze3 rfl (by decide) rfl (fun S7 a8 => ?_)
  refine o_pure (p_assign (v := .slice a8 ([key]).length ([key].length)) rfl) rfl rfl rfl ?_
  refine o_nil ?_
  refine q_then ?_
  refine c_seq ?_
  refine c_seq ?_
  refine c_region ?_
  refine o_pure (p_assign (v := .int .i64 0) rfl) rfl rfl rfl ?_
  refine o_nil ?_
  refine q_then ?_
  refine c_block ?_
  refine c_loop (St := List Int × Option Addr × Nat × (Nat → Prop) × Nat)
    (fun ⟨f, af, cf, Sf, i⟩ => [(1, .int .i64 key), (2, .pointer (some ⟨B1, 0, none⟩)), (4, .pointer (some ⟨B2, 0, none⟩)), (7, .int .i64 wh2), (8, .slice af f.length cf), (9, .int .i64 (i : Int))])
    (fun ⟨f, af, cf, Sf, i⟩ => [own tInt Sf af cf f, box B2 [.int .i64 0, .int .i64 0, .slice none 0 0, .slice none 0 0] 43, box B1 [.int .i64 t.near, .int .i64 t.far, .slice at_0 t.first.length ct_0, .slice at_1 t.rest.length ct_1] 43, outer w0 []])
    (fun ⟨f, af, cf, Sf, i⟩ => Tier.FI t key f i)
    (fun ⟨f, af, cf, Sf, i⟩ => t.first.length - i)
    ([key], a8, [key].length, S7, 0) ?_ (Sub.cons rfl (Sub.cons rfl (Sub.cons rfl (Sub.cons rfl (Sub.cons rfl (Sub.cons rfl (Sub.nil _))))))) (fun _ hw => hw) ?_
  · exact Tier.FI.start _ _
  rintro ⟨f, af, cf, Sf, i⟩ hI K hK10
  have hfl := hI.len
  have hfi := hI.le
  show SC _ _ Try.prog 107 w0 _ _ [(1, .int .i64 key), (2, .pointer (some ⟨B1, 0, none⟩)), (4, .pointer (some ⟨B2, 0, none⟩)), (7, .int .i64 wh2), (8, .slice af f.length cf), (9, .int .i64 (i : Int))] [own tInt Sf af cf f, box B2 [.int .i64 0, .int .i64 0, .slice none 0 0, .slice none 0 0] 43, box B1 [.int .i64 t.near, .int .i64 t.far, .slice at_0 t.first.length ct_0, .slice at_1 t.rest.length ct_1] 43, outer w0 []]
  refine c_seq ?_
  refine c_seq ?_
  refine c_region ?_
  refine o_pure (p_move (v := .int .i64 (i : Int)) rfl) rfl rfl rfl ?_
  refine o_pure (p_fieldAddr (B := B1) (j := 0) (j' := 2) rfl fo43_2 rfl) rfl rfl rfl ?_
  refine o_pure (p_load (i := 2) (v := .slice at_0 t.first.length ct_0) rfl rfl sh23 rfl) rfl rfl rfl ?_
  refine o_pure (p_len_slice (len := t.first.length) rfl rfl Try.underlying23) rfl rfl rfl ?_
  refine o_pure (p_lt (p := (i : Int)) (q := (t.first.length : Int)) rfl rfl) rfl rfl rfl ?_
  refine o_nil ?_
  refine q_then ?_
  refine c_cond (b := decide ((i : Int) < (t.first.length : Int))) rfl (fun hc11 => ?_) (fun hc11 => ?_)
  · simp only [decide_eq_true_eq] at hc11
    refine c_skip ?_
    refine q_then ?_
    refine c_seq ?_
    refine c_block ?_
    refine c_seq ?_
    refine c_region ?_
    refine o_pure (p_fieldAddr (B := B1) (j := 0) (j' := 2) rfl fo43_2 rfl) rfl rfl rfl ?_
    refine o_pure (p_load (i := 2) (v := .slice at_0 t.first.length ct_0) rfl rfl sh23 rfl) rfl rfl rfl ?_
    refine o_pure (p_move (v := .int .i64 (i : Int)) rfl) rfl rfl rfl ?_
    refine o_pure (p_indexAddr (L := t.first) (T := tInt) (i := (i : Int)) rfl rfl (rd_outer (i := 3) rfl ht_0) Try.underlying23 sz3 (by omega) (by omega)) rfl rfl rfl ?_
    refine o_pure (p_loadE1 (i := i) (T := tInt) (L := t.first) (v := .int .i64 (t.first[i])) rfl (rd_outer (i := 3) rfl ht_0) (by first | assumption | omega) sh3 rfl) rfl rfl rfl ?_
    refine o_pure (p_move (v := .int .i64 key) rfl) rfl rfl rfl ?_
    refine o_pure (p_ne (p := t.first[i]) (q := key) rfl rfl) rfl rfl rfl ?_
    refine o_nil ?_
    refine q_then ?_
    refine c_cond (b := (t.first[i] != key)) rfl (fun hc12 => ?_) (fun hc12 => ?_)
    · simp only [bne_iff_ne, ne_eq] at hc12
      refine c_region ?_
      refine o_pure (p_move (v := .slice af f.length cf) rfl) rfl rfl rfl ?_
      refine o_pure (p_fieldAddr (B := B1) (j := 0) (j' := 2) rfl fo43_2 rfl) rfl rfl rfl ?_
      refine o_pure (p_load (i := 2) (v := .slice at_0 t.first.length ct_0) rfl rfl sh23 rfl) rfl rfl rfl ?_
      refine o_pure (p_move (v := .int .i64 (i : Int)) rfl) rfl rfl rfl ?_
      refine o_pure (p_indexAddr (L := t.first) (T := tInt) (i := (i : Int)) rfl rfl (rd_outer (i := 3) rfl ht_0) Try.underlying23 sz3 (by omega) (by omega)) rfl rfl rfl ?_
      refine o_pure (p_loadE1 (i := i) (T := tInt) (L := t.first) (v := .int .i64 (t.first[i])) rfl (rd_outer (i := 3) rfl ht_0) (by first | assumption | omega) sh3 rfl) rfl rfl rfl ?_
      refine o_buildSlice (m := 1) (T := tInt) (L := [t.first[i]]) (vs := [.int .i64 (t.first[i])]) rfl rfl rfl rfl Try.underlying23 sz3 (by decide) ze3 rfl (by decide) rfl (fun S13 a14 => ?_)
      refine o_append (i := 1) (L := f) (M := [t.first[i]]) (T := tInt) rfl rfl rfl (rd_own (i := 0) rfl) Try.underlying23 Try.underlying23 (by intro k h; cases h) el3 (by intro z; simp [tInt, one1]) (by decide) (by first | omega | (simp only [List.length_cons, List.length_nil]; omega) | (simp only [List.length_append, List.length_cons, List.length_nil, List.length_take, List.length_drop]; omega)) rfl (fun a16 c17 S18 => ?_)
      refine o_pure (p_assign (v := .slice a16 (f ++ [t.first[i]]).length c17) rfl) rfl rfl rfl ?_
      refine o_nil ?_
      refine q_block_normal (q_then ?_)
      refine c_region ?_
      refine o_pure (p_move (v := .int .i64 (i : Int)) rfl) rfl rfl rfl ?_
      refine o_pure (p_addb (p := (i : Int)) (q := 1) rfl rfl (by omega)) rfl rfl rfl ?_
      refine o_pure (p_assign (v := .int .i64 ((i : Int) + 1)) rfl) rfl rfl rfl ?_
      refine o_nil ?_
      refine q_round hK10 ((f ++ [t.first[i]]), a16, c17, S18, i + 1) ?_ ?_ ?_ ?_
      · clear hK10
        first | exact hI.add (by omega) (by assumption) | exact hI.skip (by omega) (by assumption)
      · (try dsimp only); omega
      · exact Sub.cons rfl (Sub.cons rfl (Sub.cons rfl (Sub.cons rfl (Sub.cons rfl (Sub.cons rfl (Sub.nil _))))))
      · exact fun _ hw => HeapIs.pick hw [1, 2, 3, 4] (by decide) rfl
    · simp only [bne_eq_false_iff_eq] at hc12
      refine c_skip ?_
      refine q_block_normal (q_then ?_)
      refine c_region ?_
      refine o_pure (p_move (v := .int .i64 (i : Int)) rfl) rfl rfl rfl ?_
      refine o_pure (p_addb (p := (i : Int)) (q := 1) rfl rfl (by omega)) rfl rfl rfl ?_
      refine o_pure (p_assign (v := .int .i64 ((i : Int) + 1)) rfl) rfl rfl rfl ?_
      refine o_nil ?_
      refine q_round hK10 (f, af, cf, Sf, i + 1) ?_ ?_ ?_ ?_
      · clear hK10
        first | exact hI.add (by omega) (by assumption) | exact hI.skip (by omega) (by assumption)
      · (try dsimp only); omega
      · exact Sub.cons rfl (Sub.cons rfl (Sub.cons rfl (Sub.cons rfl (Sub.cons rfl (Sub.cons rfl (Sub.nil _))))))
      · exact fun _ hw => HeapIs.pick hw [0, 1, 2, 3] (by decide) rfl
  · simp only [decide_eq_false_iff_not, Int.not_lt] at hc11
    have hff := hI.done hy1.1 (by omega)
    have hfl := hI.len
    refine c_exit ?_
    refine q_then_exit (q_then_exit (q_block_exit (q_then ?_)))
    refine c_seq ?_
    refine c_region ?_
    refine o_pure (p_assign (v := .slice none 0 0) rfl) rfl rfl rfl ?_
    refine o_nil ?_
    refine q_then ?_
    refine c_seq ?_
    refine c_seq ?_
    refine c_region ?_
    refine o_pure (p_move (v := .slice af f.length cf) rfl) rfl rfl rfl ?_
    refine o_pure (p_len_slice (len := f.length) rfl rfl Try.underlying23) rfl rfl rfl ?_
    refine o_pure (p_fieldAddr (B := B1) (j := 0) (j' := 0) rfl fo43_0 rfl) rfl rfl rfl ?_
    refine o_pure (p_load (i := 2) (v := .int .i64 t.near) rfl rfl sh3 rfl) rfl rfl rfl ?_
    refine o_pure (p_gt (p := (f.length : Int)) (q := t.near) rfl rfl) rfl rfl rfl ?_
    refine o_nil ?_
    refine q_then ?_
    refine c_cond (b := decide (t.near < (f.length : Int))) rfl (fun hc19 => ?_) (fun hc19 => ?_)
    · simp only [decide_eq_true_eq] at hc19
      have hnf := hc19
      refine c_seq ?_
      refine c_region ?_
      refine o_pure (p_move (v := .slice none 0 0) rfl) rfl rfl rfl ?_
      refine o_pure (p_move (v := .slice af f.length cf) rfl) rfl rfl rfl ?_
      refine o_pure (p_fieldAddr (B := B1) (j := 0) (j' := 0) rfl fo43_0 rfl) rfl rfl rfl ?_
      refine o_pure (p_load (i := 2) (v := .int .i64 t.near) rfl rfl sh3 rfl) rfl rfl rfl ?_
      refine o_pure (p_indexAddr (L := f) (T := tInt) (i := t.near) rfl rfl (rd_own (i := 0) rfl) Try.underlying23 sz3 (by omega) (by omega)) rfl rfl rfl ?_
      refine o_pure (p_loadE1 (i := t.near.toNat) (T := tInt) (L := f) (v := .int .i64 (f[t.near.toNat])) rfl (rd_own (i := 0) rfl) (by first | assumption | omega) sh3 rfl) rfl rfl rfl ?_
      refine o_buildSlice (m := 1) (T := tInt) (L := [f[t.near.toNat]]) (vs := [.int .i64 (f[t.near.toNat])]) rfl rfl rfl rfl Try.underlying23 sz3 (by decide) ze3 rfl (by decide) rfl (fun S20 a21 => ?_)
      refine o_ownNil tInt ?_
      refine o_append (i := 0) (L := []) (M := [f[t.near.toNat]]) (T := tInt) rfl rfl rfl (rd_own (i := 1) rfl) Try.underlying23 Try.underlying23 (by intro k h; cases h) el3 (by intro z; simp [tInt, one1]) (by decide) (by first | omega | (simp only [List.length_cons, List.length_nil]; omega) | (simp only [List.length_append, List.length_cons, List.length_nil, List.length_take, List.length_drop]; omega)) rfl (fun a24 c25 S26 => ?_)
      refine o_pure (p_assign (v := .slice a24 ([] ++ [f[t.near.toNat]]).length c25) rfl) rfl rfl rfl ?_
      refine o_nil ?_
      refine q_then ?_
      refine c_region ?_
      refine o_pure (p_move (v := .slice af f.length cf) rfl) rfl rfl rfl ?_
      refine o_pure (p_fieldAddr (B := B1) (j := 0) (j' := 0) rfl fo43_0 rfl) rfl rfl rfl ?_
      refine o_pure (p_load (i := 4) (v := .int .i64 t.near) rfl rfl sh3 rfl) rfl rfl rfl ?_
      refine o_pure (p_sliceH (L := f) (T := tInt) (h := t.near) rfl rfl Try.underlying23 sz3 (by omega) (by omega) (rd_own (i := 2) rfl)) rfl rfl rfl ?_
      refine o_pure (p_assign (v := .slice af (f.take t.near.toNat).length cf) rfl) rfl rfl rfl ?_
      refine o_nil ?_
      refine q_then ?_
      refine c_seq ?_
      refine c_seq ?_
      refine c_region ?_
      refine o_pure (p_assign (v := .int .i64 0) rfl) rfl rfl rfl ?_
      refine o_nil ?_
      refine q_then ?_
      refine c_block ?_
      refine c_loop (St := List Int × Option Addr × Nat × (Nat → Prop) × Nat)
        (fun ⟨r, ar, cr, Sr, i2⟩ => [(1, .int .i64 key), (2, .pointer (some ⟨B1, 0, none⟩)), (4, .pointer (some ⟨B2, 0, none⟩)), (7, .int .i64 wh2), (8, .slice af (f.take t.near.toNat).length cf), (10, .slice ar r.length cr), (11, .int .i64 (i2 : Int))])
        (fun ⟨r, ar, cr, Sr, i2⟩ => [own tInt Sr ar cr r, own tInt S20 a21 ([f[t.near.toNat]].length) ([f[t.near.toNat]]), own tInt Sf af cf f, box B2 [.int .i64 0, .int .i64 0, .slice none 0 0, .slice none 0 0] 43, box B1 [.int .i64 t.near, .int .i64 t.far, .slice at_0 t.first.length ct_0, .slice at_1 t.rest.length ct_1] 43, outer w0 []])
        (fun ⟨r, ar, cr, Sr, i2⟩ => Tier.GI t key f r i2)
        (fun ⟨r, ar, cr, Sr, i2⟩ => t.rest.length - i2)
        (([] ++ [f[t.near.toNat]]), a24, c25, S26, 0) ?_ (Sub.cons rfl (Sub.cons rfl (Sub.cons rfl (Sub.cons rfl (Sub.cons rfl (Sub.cons rfl (Sub.cons rfl (Sub.nil _)))))))) (fun _ hw => hw) ?_
      · first | exact Tier.GI.start1 hnf (by omega) rfl | exact Tier.GI.start2 hnf
      rintro ⟨r, ar, cr, Sr, i2⟩ hI K hK27
      have hrl := hI.len
      have hri := hI.le
      show SC _ _ Try.prog 107 w0 _ _ [(1, .int .i64 key), (2, .pointer (some ⟨B1, 0, none⟩)), (4, .pointer (some ⟨B2, 0, none⟩)), (7, .int .i64 wh2), (8, .slice af (f.take t.near.toNat).length cf), (10, .slice ar r.length cr), (11, .int .i64 (i2 : Int))] [own tInt Sr ar cr r, own tInt S20 a21 ([f[t.near.toNat]].length) ([f[t.near.toNat]]), own tInt Sf af cf f, box B2 [.int .i64 0, .int .i64 0, .slice none 0 0, .slice none 0 0] 43, box B1 [.int .i64 t.near, .int .i64 t.far, .slice at_0 t.first.length ct_0, .slice at_1 t.rest.length ct_1] 43, outer w0 []]
      refine c_seq ?_
      refine c_seq ?_
      refine c_region ?_
      refine o_pure (p_move (v := .int .i64 (i2 : Int)) rfl) rfl rfl rfl ?_
      refine o_pure (p_fieldAddr (B := B1) (j := 0) (j' := 3) rfl fo43_3 rfl) rfl rfl rfl ?_
      refine o_pure (p_load (i := 4) (v := .slice at_1 t.rest.length ct_1) rfl rfl sh23 rfl) rfl rfl rfl ?_
      refine o_pure (p_len_slice (len := t.rest.length) rfl rfl Try.underlying23) rfl rfl rfl ?_
      refine o_pure (p_lt (p := (i2 : Int)) (q := (t.rest.length : Int)) rfl rfl) rfl rfl rfl ?_
      refine o_nil ?_
      refine q_then ?_
      refine c_cond (b := decide ((i2 : Int) < (t.rest.length : Int))) rfl (fun hc28 => ?_) (fun hc28 => ?_)
      · simp only [decide_eq_true_eq] at hc28
        refine c_skip ?_
        refine q_then ?_
        refine c_seq ?_
        refine c_block ?_
        refine c_seq ?_
        refine c_region ?_
        refine o_pure (p_fieldAddr (B := B1) (j := 0) (j' := 3) rfl fo43_3 rfl) rfl rfl rfl ?_
        refine o_pure (p_load (i := 4) (v := .slice at_1 t.rest.length ct_1) rfl rfl sh23 rfl) rfl rfl rfl ?_
        refine o_pure (p_move (v := .int .i64 (i2 : Int)) rfl) rfl rfl rfl ?_
        refine o_pure (p_indexAddr (L := t.rest) (T := tInt) (i := (i2 : Int)) rfl rfl (rd_outer (i := 5) rfl ht_1) Try.underlying23 sz3 (by omega) (by omega)) rfl rfl rfl ?_
        refine o_pure (p_loadE1 (i := i2) (T := tInt) (L := t.rest) (v := .int .i64 (t.rest[i2])) rfl (rd_outer (i := 5) rfl ht_1) (by first | assumption | omega) sh3 rfl) rfl rfl rfl ?_
        refine o_pure (p_move (v := .int .i64 key) rfl) rfl rfl rfl ?_
        refine o_pure (p_ne (p := t.rest[i2]) (q := key) rfl rfl) rfl rfl rfl ?_
        refine o_nil ?_
        refine q_then ?_
        refine c_cond (b := (t.rest[i2] != key)) rfl (fun hc29 => ?_) (fun hc29 => ?_)
        · simp only [bne_iff_ne, ne_eq] at hc29
          refine c_region ?_
          refine o_pure (p_move (v := .slice ar r.length cr) rfl) rfl rfl rfl ?_
          refine o_pure (p_fieldAddr (B := B1) (j := 0) (j' := 3) rfl fo43_3 rfl) rfl rfl rfl ?_
          refine o_pure (p_load (i := 4) (v := .slice at_1 t.rest.length ct_1) rfl rfl sh23 rfl) rfl rfl rfl ?_
          refine o_pure (p_move (v := .int .i64 (i2 : Int)) rfl) rfl rfl rfl ?_
          refine o_pure (p_indexAddr (L := t.rest) (T := tInt) (i := (i2 : Int)) rfl rfl (rd_outer (i := 5) rfl ht_1) Try.underlying23 sz3 (by omega) (by omega)) rfl rfl rfl ?_
          refine o_pure (p_loadE1 (i := i2) (T := tInt) (L := t.rest) (v := .int .i64 (t.rest[i2])) rfl (rd_outer (i := 5) rfl ht_1) (by first | assumption | omega) sh3 rfl) rfl rfl rfl ?_
          refine o_buildSlice (m := 1) (T := tInt) (L := [t.rest[i2]]) (vs := [.int .i64 (t.rest[i2])]) rfl rfl rfl rfl Try.underlying23 sz3 (by decide) ze3 rfl (by decide) rfl (fun S30 a31 => ?_)
          refine o_append (i := 1) (L := r) (M := [t.rest[i2]]) (T := tInt) rfl rfl rfl (rd_own (i := 0) rfl) Try.underlying23 Try.underlying23 (by intro k h; cases h) el3 (by intro z; simp [tInt, one1]) (by decide) (by first | omega | (simp only [List.length_cons, List.length_nil]; omega) | (simp only [List.length_append, List.length_cons, List.length_nil, List.length_take, List.length_drop]; omega)) rfl (fun a33 c34 S35 => ?_)
          refine o_pure (p_assign (v := .slice a33 (r ++ [t.rest[i2]]).length c34) rfl) rfl rfl rfl ?_
          refine o_nil ?_
          refine q_block_normal (q_then ?_)
          refine c_region ?_
          refine o_pure (p_move (v := .int .i64 (i2 : Int)) rfl) rfl rfl rfl ?_
          refine o_pure (p_addb (p := (i2 : Int)) (q := 1) rfl rfl (by omega)) rfl rfl rfl ?_
          refine o_pure (p_assign (v := .int .i64 ((i2 : Int) + 1)) rfl) rfl rfl rfl ?_
          refine o_nil ?_
          refine q_round hK27 ((r ++ [t.rest[i2]]), a33, c34, S35, i2 + 1) ?_ ?_ ?_ ?_
          · clear hK27
            first | exact hI.add (by omega) (by assumption) | exact hI.skip (by omega) (by assumption)
          · (try dsimp only); omega
          · exact Sub.cons rfl (Sub.cons rfl (Sub.cons rfl (Sub.cons rfl (Sub.cons rfl (Sub.cons rfl (Sub.cons rfl (Sub.nil _)))))))
          · exact fun _ hw => HeapIs.pick hw [1, 2, 3, 4, 5, 6] (by decide) rfl
        · simp only [bne_eq_false_iff_eq] at hc29
          refine c_skip ?_
          refine q_block_normal (q_then ?_)
          refine c_region ?_
          refine o_pure (p_move (v := .int .i64 (i2 : Int)) rfl) rfl rfl rfl ?_
          refine o_pure (p_addb (p := (i2 : Int)) (q := 1) rfl rfl (by omega)) rfl rfl rfl ?_
          refine o_pure (p_assign (v := .int .i64 ((i2 : Int) + 1)) rfl) rfl rfl rfl ?_
          refine o_nil ?_
          refine q_round hK27 (r, ar, cr, Sr, i2 + 1) ?_ ?_ ?_ ?_
          · clear hK27
            first | exact hI.add (by omega) (by assumption) | exact hI.skip (by omega) (by assumption)
          · (try dsimp only); omega
          · exact Sub.cons rfl (Sub.cons rfl (Sub.cons rfl (Sub.cons rfl (Sub.cons rfl (Sub.cons rfl (Sub.cons rfl (Sub.nil _)))))))
          · exact fun _ hw => HeapIs.pick hw [0, 1, 2, 3, 4, 5] (by decide) rfl
      · simp only [decide_eq_false_iff_not, Int.not_lt] at hc28
        obtain ⟨hz1, hz2, hz3, hz4⟩ := Tier.fin hy1.1 hy1.2 hff hI (by omega)
        refine c_exit ?_
        refine q_then_exit (q_then_exit (q_block_exit (q_then ?_)))
        refine c_seq ?_
        refine c_region ?_
        refine o_pure (p_assign (v := .int .i64 (-1)) rfl) rfl rfl rfl ?_
        refine o_nil ?_
        refine q_then ?_
        refine c_seq ?_
        refine c_seq ?_
        refine c_region ?_
        refine o_pure (p_move (v := .slice ar r.length cr) rfl) rfl rfl rfl ?_
        refine o_pure (p_len_slice (len := r.length) rfl rfl Try.underlying23) rfl rfl rfl ?_
        refine o_pure (p_fieldAddr (B := B1) (j := 0) (j' := 1) rfl fo43_1 rfl) rfl rfl rfl ?_
        refine o_pure (p_load (i := 4) (v := .int .i64 t.far) rfl rfl sh3 rfl) rfl rfl rfl ?_
        refine o_pure (p_gt (p := (r.length : Int)) (q := t.far) rfl rfl) rfl rfl rfl ?_
        refine o_nil ?_
        refine q_then ?_
        refine c_cond (b := decide (t.far < (r.length : Int))) rfl (fun hc36 => ?_) (fun hc36 => ?_)
        · simp only [decide_eq_true_eq] at hc36
          refine c_seq ?_
          refine c_region ?_
          refine o_pure (p_move (v := .slice ar r.length cr) rfl) rfl rfl rfl ?_
          refine o_pure (p_fieldAddr (B := B1) (j := 0) (j' := 1) rfl fo43_1 rfl) rfl rfl rfl ?_
          refine o_pure (p_load (i := 4) (v := .int .i64 t.far) rfl rfl sh3 rfl) rfl rfl rfl ?_
          refine o_pure (p_indexAddr (L := r) (T := tInt) (i := t.far) rfl rfl (rd_own (i := 0) rfl) Try.underlying23 sz3 (by omega) (by omega)) rfl rfl rfl ?_
          refine o_pure (p_loadE1 (i := t.far.toNat) (T := tInt) (L := r) (v := .int .i64 (r[t.far.toNat])) rfl (rd_own (i := 0) rfl) (by first | assumption | omega) sh3 rfl) rfl rfl rfl ?_
          refine o_pure (p_assign (v := .int .i64 (r[t.far.toNat])) rfl) rfl rfl rfl ?_
          refine o_nil ?_
          refine q_then ?_
          refine c_region ?_
          refine o_pure (p_move (v := .slice ar r.length cr) rfl) rfl rfl rfl ?_
          refine o_pure (p_fieldAddr (B := B1) (j := 0) (j' := 1) rfl fo43_1 rfl) rfl rfl rfl ?_
          refine o_pure (p_load (i := 4) (v := .int .i64 t.far) rfl rfl sh3 rfl) rfl rfl rfl ?_
          refine o_pure (p_sliceH (L := r) (T := tInt) (h := t.far) rfl rfl Try.underlying23 sz3 (by omega) (by omega) (rd_own (i := 0) rfl)) rfl rfl rfl ?_
          refine o_pure (p_assign (v := .slice ar (r.take t.far.toNat).length cr) rfl) rfl rfl rfl ?_
          refine o_nil ?_
          refine q_then ?_
          refine c_seq ?_
          refine c_region ?_
          refine o_pure (p_fieldAddr (B := B1) (j := 0) (j' := 0) rfl fo43_0 rfl) rfl rfl rfl ?_
          refine o_pure (p_load (i := 4) (v := .int .i64 t.near) rfl rfl sh3 rfl) rfl rfl rfl ?_
          refine o_pure (p_fieldAddr (B := B1) (j := 0) (j' := 1) rfl fo43_1 rfl) rfl rfl rfl ?_
          refine o_pure (p_load (i := 4) (v := .int .i64 t.far) rfl rfl sh3 rfl) rfl rfl rfl ?_
          refine o_pure (p_move (v := .slice af (f.take t.near.toNat).length cf) rfl) rfl rfl rfl ?_
          refine o_pure (p_move (v := .slice ar (r.take t.far.toNat).length cr) rfl) rfl rfl rfl ?_
          refine o_pure (p_build (cells := [.int .i64 t.near, .int .i64 t.far, .slice af (f.take t.near.toNat).length cf, .slice ar (r.take t.far.toNat).length cr]) fp43 ze43 rfl rfl) rfl rfl rfl ?_
          refine o_pure (p_move (v := .int .i64 wh2) rfl) rfl rfl rfl ?_
          refine o_pure (p_move (v := .int .i64 (r[t.far.toNat])) rfl) rfl rfl rfl ?_
          refine o_shrinkC (i := 2) (hi := t.near.toNat) (T := tInt) rfl (by omega) ?_
          refine o_shrinkC (i := 0) (hi := t.far.toNat) (T := tInt) rfl (by omega) ?_
          refine o_storeN (i := 3) (vs := [.int .i64 t.near, .int .i64 t.far, .slice af (f.take t.near.toNat).length cf, .slice ar (r.take t.far.toNat).length cr]) (cs' := [.int .i64 t.near, .int .i64 t.far, .slice af (f.take t.near.toNat).length cf, .slice ar (r.take t.far.toNat).length cr]) rfl rfl rfl sz43 rfl rfl rfl rfl ?_
          refine o_pure (p_assign (v := .int .i64 wh2) rfl) rfl rfl rfl ?_
          refine o_pure (p_assign (v := .int .i64 (r[t.far.toNat])) rfl) rfl rfl rfl ?_
          refine o_nil ?_
          refine q_then ?_
          refine c_ret ?_
          have hr0 : (t.near : Int) = ((Tier.touch t key).1).near := by
            first | exact hw2 | exact hz1 | exact (List.take_of_length_le (i := t.near.toNat) (by omega)).symm.trans hz1 | exact hz2 | exact (List.take_of_length_le (i := t.far.toNat) (by omega)).symm.trans hz2 | exact hz3 (by omega) _ _ rfl | exact (hz4 (by omega)).symm | rfl
          have hr1 : (t.far : Int) = ((Tier.touch t key).1).far := by
            first | exact hw2 | exact hz1 | exact (List.take_of_length_le (i := t.near.toNat) (by omega)).symm.trans hz1 | exact hz2 | exact (List.take_of_length_le (i := t.far.toNat) (by omega)).symm.trans hz2 | exact hz3 (by omega) _ _ rfl | exact (hz4 (by omega)).symm | rfl
          have hr2 : ((f.take t.near.toNat) : List Int) = ((Tier.touch t key).1).first := by
            first | exact hw2 | exact hz1 | exact (List.take_of_length_le (i := t.near.toNat) (by omega)).symm.trans hz1 | exact hz2 | exact (List.take_of_length_le (i := t.far.toNat) (by omega)).symm.trans hz2 | exact hz3 (by omega) _ _ rfl | exact (hz4 (by omega)).symm | rfl
          have hr3 : ((r.take t.far.toNat) : List Int) = ((Tier.touch t key).1).rest := by
            first | exact hw2 | exact hz1 | exact (List.take_of_length_le (i := t.near.toNat) (by omega)).symm.trans hz1 | exact hz2 | exact (List.take_of_length_le (i := t.far.toNat) (by omega)).symm.trans hz2 | exact hz3 (by omega) _ _ rfl | exact (hz4 (by omega)).symm | rfl
          have hr4 : (wh2 : Int) = (Tier.place t key) := by
            first | exact hw2 | exact hz1 | exact (List.take_of_length_le (i := t.near.toNat) (by omega)).symm.trans hz1 | exact hz2 | exact (List.take_of_length_le (i := t.far.toNat) (by omega)).symm.trans hz2 | exact hz3 (by omega) _ _ rfl | exact (hz4 (by omega)).symm | rfl
          have hr5 : (r[t.far.toNat] : Int) = (Tier.gone t key) := by
            first | exact hw2 | exact hz1 | exact (List.take_of_length_le (i := t.near.toNat) (by omega)).symm.trans hz1 | exact hz2 | exact (List.take_of_length_le (i := t.far.toNat) (by omega)).symm.trans hz2 | exact hz3 (by omega) _ _ rfl | exact (hz4 (by omega)).symm | rfl
          refine q_endX (p := (af, cf, Sf, ar, cr, Sr)) (rt3 rfl (r_cell (i := 3) rfl rfl sh43 rfl) (r_tmp rfl) (r_tmp rfl)) ?_ (fun w hw => ?_)
          · exact (by have hcc := congr (congr (congr (congr (congr (congrArg (fun (y0 : Int) (y1 : Int) (y2 : List Int) (y3 : List Int) (y4 : Int) (y5 : Int) => (.tuple #[.agg #[.int .i64 y0, .int .i64 y1, .slice af y2.length cf, .slice ar y3.length cr], .int .i64 y4, .int .i64 y5] : Value)) hr0) hr1) hr2) hr3) hr4) hr5; exact hcc)
          · have h2 := hw.pick (H' := [outer w0 [], own tInt Sf af cf (f.take t.near.toNat), own tInt Sr ar cr (r.take t.far.toNat)]) [5, 2, 0] (by decide) rfl
            exact Eq.mp (congrArg (fun z => HeapIs w0 ((outer w0 []) :: z) w) ((by have hcc := congr (congr (congr (congr (congr (congrArg (fun (y0 : Int) (y1 : Int) (y2 : List Int) (y3 : List Int) (y4 : Int) (y5 : Int) => ([own tInt Sf af cf y2, own tInt Sr ar cr y3] : List Ent)) hr0) hr1) hr2) hr3) hr4) hr5; exact hcc))) h2
        · simp only [decide_eq_false_iff_not, Int.not_lt] at hc36
          refine c_skip ?_
          refine q_then ?_
          refine c_seq ?_
          refine c_region ?_
          refine o_pure (p_fieldAddr (B := B1) (j := 0) (j' := 0) rfl fo43_0 rfl) rfl rfl rfl ?_
          refine o_pure (p_load (i := 4) (v := .int .i64 t.near) rfl rfl sh3 rfl) rfl rfl rfl ?_
          refine o_pure (p_fieldAddr (B := B1) (j := 0) (j' := 1) rfl fo43_1 rfl) rfl rfl rfl ?_
          refine o_pure (p_load (i := 4) (v := .int .i64 t.far) rfl rfl sh3 rfl) rfl rfl rfl ?_
          refine o_pure (p_move (v := .slice af (f.take t.near.toNat).length cf) rfl) rfl rfl rfl ?_
          refine o_pure (p_move (v := .slice ar r.length cr) rfl) rfl rfl rfl ?_
          refine o_pure (p_build (cells := [.int .i64 t.near, .int .i64 t.far, .slice af (f.take t.near.toNat).length cf, .slice ar r.length cr]) fp43 ze43 rfl rfl) rfl rfl rfl ?_
          refine o_pure (p_move (v := .int .i64 wh2) rfl) rfl rfl rfl ?_
          refine o_pure (p_move (v := .int .i64 (-1)) rfl) rfl rfl rfl ?_
          refine o_shrinkC (i := 2) (hi := t.near.toNat) (T := tInt) rfl (by omega) ?_
          refine o_storeN (i := 3) (vs := [.int .i64 t.near, .int .i64 t.far, .slice af (f.take t.near.toNat).length cf, .slice ar r.length cr]) (cs' := [.int .i64 t.near, .int .i64 t.far, .slice af (f.take t.near.toNat).length cf, .slice ar r.length cr]) rfl rfl rfl sz43 rfl rfl rfl rfl ?_
          refine o_pure (p_assign (v := .int .i64 wh2) rfl) rfl rfl rfl ?_
          refine o_pure (p_assign (v := .int .i64 (-1)) rfl) rfl rfl rfl ?_
          refine o_nil ?_
          refine q_then ?_
          refine c_ret ?_
          have hr0 : (t.near : Int) = ((Tier.touch t key).1).near := by
            first | exact hw2 | exact hz1 | exact (List.take_of_length_le (i := t.near.toNat) (by omega)).symm.trans hz1 | exact hz2 | exact (List.take_of_length_le (i := t.far.toNat) (by omega)).symm.trans hz2 | exact hz3 (by omega) _ _ rfl | exact (hz4 (by omega)).symm | rfl
          have hr1 : (t.far : Int) = ((Tier.touch t key).1).far := by
            first | exact hw2 | exact hz1 | exact (List.take_of_length_le (i := t.near.toNat) (by omega)).symm.trans hz1 | exact hz2 | exact (List.take_of_length_le (i := t.far.toNat) (by omega)).symm.trans hz2 | exact hz3 (by omega) _ _ rfl | exact (hz4 (by omega)).symm | rfl
          have hr2 : ((f.take t.near.toNat) : List Int) = ((Tier.touch t key).1).first := by
            first | exact hw2 | exact hz1 | exact (List.take_of_length_le (i := t.near.toNat) (by omega)).symm.trans hz1 | exact hz2 | exact (List.take_of_length_le (i := t.far.toNat) (by omega)).symm.trans hz2 | exact hz3 (by omega) _ _ rfl | exact (hz4 (by omega)).symm | rfl
          have hr3 : (r : List Int) = ((Tier.touch t key).1).rest := by
            first | exact hw2 | exact hz1 | exact (List.take_of_length_le (i := t.near.toNat) (by omega)).symm.trans hz1 | exact hz2 | exact (List.take_of_length_le (i := t.far.toNat) (by omega)).symm.trans hz2 | exact hz3 (by omega) _ _ rfl | exact (hz4 (by omega)).symm | rfl
          have hr4 : (wh2 : Int) = (Tier.place t key) := by
            first | exact hw2 | exact hz1 | exact (List.take_of_length_le (i := t.near.toNat) (by omega)).symm.trans hz1 | exact hz2 | exact (List.take_of_length_le (i := t.far.toNat) (by omega)).symm.trans hz2 | exact hz3 (by omega) _ _ rfl | exact (hz4 (by omega)).symm | rfl
          have hr5 : ((-1) : Int) = (Tier.gone t key) := by
            first | exact hw2 | exact hz1 | exact (List.take_of_length_le (i := t.near.toNat) (by omega)).symm.trans hz1 | exact hz2 | exact (List.take_of_length_le (i := t.far.toNat) (by omega)).symm.trans hz2 | exact hz3 (by omega) _ _ rfl | exact (hz4 (by omega)).symm | rfl
          refine q_endX (p := (af, cf, Sf, ar, cr, Sr)) (rt3 rfl (r_cell (i := 3) rfl rfl sh43 rfl) (r_tmp rfl) (r_tmp rfl)) ?_ (fun w hw => ?_)
          · exact (by have hcc := congr (congr (congr (congr (congr (congrArg (fun (y0 : Int) (y1 : Int) (y2 : List Int) (y3 : List Int) (y4 : Int) (y5 : Int) => (.tuple #[.agg #[.int .i64 y0, .int .i64 y1, .slice af y2.length cf, .slice ar y3.length cr], .int .i64 y4, .int .i64 y5] : Value)) hr0) hr1) hr2) hr3) hr4) hr5; exact hcc)
          · have h2 := hw.pick (H' := [outer w0 [], own tInt Sf af cf (f.take t.near.toNat), own tInt Sr ar cr r]) [5, 2, 0] (by decide) rfl
            exact Eq.mp (congrArg (fun z => HeapIs w0 ((outer w0 []) :: z) w) ((by have hcc := congr (congr (congr (congr (congr (congrArg (fun (y0 : Int) (y1 : Int) (y2 : List Int) (y3 : List Int) (y4 : Int) (y5 : Int) => ([own tInt Sf af cf y2, own tInt Sr ar cr y3] : List Ent)) hr0) hr1) hr2) hr3) hr4) hr5; exact hcc))) h2
    · simp only [decide_eq_false_iff_not, Int.not_lt] at hc19
      have hnf := hc19
      refine c_skip ?_
      refine q_then ?_
      refine c_seq ?_
      refine c_seq ?_
      refine c_region ?_
      refine o_pure (p_assign (v := .int .i64 0) rfl) rfl rfl rfl ?_
      refine o_nil ?_
      refine q_then ?_
      refine c_block ?_
      refine c_ownNil tInt ?_
      refine c_loop (St := List Int × Option Addr × Nat × (Nat → Prop) × Nat)
        (fun ⟨r, ar, cr, Sr, i2⟩ => [(1, .int .i64 key), (2, .pointer (some ⟨B1, 0, none⟩)), (4, .pointer (some ⟨B2, 0, none⟩)), (7, .int .i64 wh2), (8, .slice af f.length cf), (10, .slice ar r.length cr), (11, .int .i64 (i2 : Int))])
        (fun ⟨r, ar, cr, Sr, i2⟩ => [own tInt Sr ar cr r, own tInt Sf af cf f, box B2 [.int .i64 0, .int .i64 0, .slice none 0 0, .slice none 0 0] 43, box B1 [.int .i64 t.near, .int .i64 t.far, .slice at_0 t.first.length ct_0, .slice at_1 t.rest.length ct_1] 43, outer w0 []])
        (fun ⟨r, ar, cr, Sr, i2⟩ => Tier.GI t key f r i2)
        (fun ⟨r, ar, cr, Sr, i2⟩ => t.rest.length - i2)
        ([], none, 0, (fun _ => False), 0) ?_ (Sub.cons rfl (Sub.cons rfl (Sub.cons rfl (Sub.cons rfl (Sub.cons rfl (Sub.cons rfl (Sub.cons rfl (Sub.nil _)))))))) (fun _ hw => hw) ?_
      · first | exact Tier.GI.start1 hnf (by omega) rfl | exact Tier.GI.start2 hnf
      rintro ⟨r, ar, cr, Sr, i2⟩ hI K hK38
      have hrl := hI.len
      have hri := hI.le
      show SC _ _ Try.prog 107 w0 _ _ [(1, .int .i64 key), (2, .pointer (some ⟨B1, 0, none⟩)), (4, .pointer (some ⟨B2, 0, none⟩)), (7, .int .i64 wh2), (8, .slice af f.length cf), (10, .slice ar r.length cr), (11, .int .i64 (i2 : Int))] [own tInt Sr ar cr r, own tInt Sf af cf f, box B2 [.int .i64 0, .int .i64 0, .slice none 0 0, .slice none 0 0] 43, box B1 [.int .i64 t.near, .int .i64 t.far, .slice at_0 t.first.length ct_0, .slice at_1 t.rest.length ct_1] 43, outer w0 []]
      refine c_seq ?_
      refine c_seq ?_
      refine c_region ?_
      refine o_pure (p_move (v := .int .i64 (i2 : Int)) rfl) rfl rfl rfl ?_
      refine o_pure (p_fieldAddr (B := B1) (j := 0) (j' := 3) rfl fo43_3 rfl) rfl rfl rfl ?_
      refine o_pure (p_load (i := 3) (v := .slice at_1 t.rest.length ct_1) rfl rfl sh23 rfl) rfl rfl rfl ?_
      refine o_pure (p_len_slice (len := t.rest.length) rfl rfl Try.underlying23) rfl rfl rfl ?_
      refine o_pure (p_lt (p := (i2 : Int)) (q := (t.rest.length : Int)) rfl rfl) rfl rfl rfl ?_
      refine o_nil ?_
      refine q_then ?_
      refine c_cond (b := decide ((i2 : Int) < (t.rest.length : Int))) rfl (fun hc39 => ?_) (fun hc39 => ?_)
      · simp only [decide_eq_true_eq] at hc39
        refine c_skip ?_
        refine q_then ?_
        refine c_seq ?_
        refine c_block ?_
        refine c_seq ?_
        refine c_region ?_
        refine o_pure (p_fieldAddr (B := B1) (j := 0) (j' := 3) rfl fo43_3 rfl) rfl rfl rfl ?_
        refine o_pure (p_load (i := 3) (v := .slice at_1 t.rest.length ct_1) rfl rfl sh23 rfl) rfl rfl rfl ?_
        refine o_pure (p_move (v := .int .i64 (i2 : Int)) rfl) rfl rfl rfl ?_
        refine o_pure (p_indexAddr (L := t.rest) (T := tInt) (i := (i2 : Int)) rfl rfl (rd_outer (i := 4) rfl ht_1) Try.underlying23 sz3 (by omega) (by omega)) rfl rfl rfl ?_
        refine o_pure (p_loadE1 (i := i2) (T := tInt) (L := t.rest) (v := .int .i64 (t.rest[i2])) rfl (rd_outer (i := 4) rfl ht_1) (by first | assumption | omega) sh3 rfl) rfl rfl rfl ?_
        refine o_pure (p_move (v := .int .i64 key) rfl) rfl rfl rfl ?_
        refine o_pure (p_ne (p := t.rest[i2]) (q := key) rfl rfl) rfl rfl rfl ?_
        refine o_nil ?_
        refine q_then ?_
        refine c_cond (b := (t.rest[i2] != key)) rfl (fun hc40 => ?_) (fun hc40 => ?_)
        · simp only [bne_iff_ne, ne_eq] at hc40
          refine c_region ?_
          refine o_pure (p_move (v := .slice ar r.length cr) rfl) rfl rfl rfl ?_
          refine o_pure (p_fieldAddr (B := B1) (j := 0) (j' := 3) rfl fo43_3 rfl) rfl rfl rfl ?_
          refine o_pure (p_load (i := 3) (v := .slice at_1 t.rest.length ct_1) rfl rfl sh23 rfl) rfl rfl rfl ?_
          refine o_pure (p_move (v := .int .i64 (i2 : Int)) rfl) rfl rfl rfl ?_
          refine o_pure (p_indexAddr (L := t.rest) (T := tInt) (i := (i2 : Int)) rfl rfl (rd_outer (i := 4) rfl ht_1) Try.underlying23 sz3 (by omega) (by omega)) rfl rfl rfl ?_
          refine o_pure (p_loadE1 (i := i2) (T := tInt) (L := t.rest) (v := .int .i64 (t.rest[i2])) rfl (rd_outer (i := 4) rfl ht_1) (by first | assumption | omega) sh3 rfl) rfl rfl rfl ?_
          refine o_buildSlice (m := 1) (T := tInt) (L := [t.rest[i2]]) (vs := [.int .i64 (t.rest[i2])]) rfl rfl rfl rfl Try.underlying23 sz3 (by decide) ze3 rfl (by decide) rfl (fun S41 a42 => ?_)
          refine o_append (i := 1) (L := r) (M := [t.rest[i2]]) (T := tInt) rfl rfl rfl (rd_own (i := 0) rfl) Try.underlying23 Try.underlying23 (by intro k h; cases h) el3 (by intro z; simp [tInt, one1]) (by decide) (by first | omega | (simp only [List.length_cons, List.length_nil]; omega) | (simp only [List.length_append, List.length_cons, List.length_nil, List.length_take, List.length_drop]; omega)) rfl (fun a44 c45 S46 => ?_)
          refine o_pure (p_assign (v := .slice a44 (r ++ [t.rest[i2]]).length c45) rfl) rfl rfl rfl ?_
          refine o_nil ?_
          refine q_block_normal (q_then ?_)
          refine c_region ?_
          refine o_pure (p_move (v := .int .i64 (i2 : Int)) rfl) rfl rfl rfl ?_
          refine o_pure (p_addb (p := (i2 : Int)) (q := 1) rfl rfl (by omega)) rfl rfl rfl ?_
          refine o_pure (p_assign (v := .int .i64 ((i2 : Int) + 1)) rfl) rfl rfl rfl ?_
          refine o_nil ?_
          refine q_round hK38 ((r ++ [t.rest[i2]]), a44, c45, S46, i2 + 1) ?_ ?_ ?_ ?_
          · clear hK38
            first | exact hI.add (by omega) (by assumption) | exact hI.skip (by omega) (by assumption)
          · (try dsimp only); omega
          · exact Sub.cons rfl (Sub.cons rfl (Sub.cons rfl (Sub.cons rfl (Sub.cons rfl (Sub.cons rfl (Sub.cons rfl (Sub.nil _)))))))
          · exact fun _ hw => HeapIs.pick hw [1, 2, 3, 4, 5] (by decide) rfl
        · simp only [bne_eq_false_iff_eq] at hc40
          refine c_skip ?_
          refine q_block_normal (q_then ?_)
          refine c_region ?_
          refine o_pure (p_move (v := .int .i64 (i2 : Int)) rfl) rfl rfl rfl ?_
          refine o_pure (p_addb (p := (i2 : Int)) (q := 1) rfl rfl (by omega)) rfl rfl rfl ?_
          refine o_pure (p_assign (v := .int .i64 ((i2 : Int) + 1)) rfl) rfl rfl rfl ?_
          refine o_nil ?_
          refine q_round hK38 (r, ar, cr, Sr, i2 + 1) ?_ ?_ ?_ ?_
          · clear hK38
            first | exact hI.add (by omega) (by assumption) | exact hI.skip (by omega) (by assumption)
          · (try dsimp only); omega
          · exact Sub.cons rfl (Sub.cons rfl (Sub.cons rfl (Sub.cons rfl (Sub.cons rfl (Sub.cons rfl (Sub.cons rfl (Sub.nil _)))))))
          · exact fun _ hw => HeapIs.pick hw [0, 1, 2, 3, 4] (by decide) rfl
      · simp only [decide_eq_false_iff_not, Int.not_lt] at hc39
        obtain ⟨hz1, hz2, hz3, hz4⟩ := Tier.fin hy1.1 hy1.2 hff hI (by omega)
        refine c_exit ?_
        refine q_then_exit (q_then_exit (q_block_exit (q_then ?_)))
        refine c_seq ?_
        refine c_region ?_
        refine o_pure (p_assign (v := .int .i64 (-1)) rfl) rfl rfl rfl ?_
        refine o_nil ?_
        refine q_then ?_
        refine c_seq ?_
        refine c_seq ?_
        refine c_region ?_
        refine o_pure (p_move (v := .slice ar r.length cr) rfl) rfl rfl rfl ?_
        refine o_pure (p_len_slice (len := r.length) rfl rfl Try.underlying23) rfl rfl rfl ?_
        refine o_pure (p_fieldAddr (B := B1) (j := 0) (j' := 1) rfl fo43_1 rfl) rfl rfl rfl ?_
        refine o_pure (p_load (i := 3) (v := .int .i64 t.far) rfl rfl sh3 rfl) rfl rfl rfl ?_
        refine o_pure (p_gt (p := (r.length : Int)) (q := t.far) rfl rfl) rfl rfl rfl ?_
        refine o_nil ?_
        refine q_then ?_
        refine c_cond (b := decide (t.far < (r.length : Int))) rfl (fun hc47 => ?_) (fun hc47 => ?_)
        · simp only [decide_eq_true_eq] at hc47
          refine c_seq ?_
          refine c_region ?_
          refine o_pure (p_move (v := .slice ar r.length cr) rfl) rfl rfl rfl ?_
          refine o_pure (p_fieldAddr (B := B1) (j := 0) (j' := 1) rfl fo43_1 rfl) rfl rfl rfl ?_
          refine o_pure (p_load (i := 3) (v := .int .i64 t.far) rfl rfl sh3 rfl) rfl rfl rfl ?_
          refine o_pure (p_indexAddr (L := r) (T := tInt) (i := t.far) rfl rfl (rd_own (i := 0) rfl) Try.underlying23 sz3 (by omega) (by omega)) rfl rfl rfl ?_
          refine o_pure (p_loadE1 (i := t.far.toNat) (T := tInt) (L := r) (v := .int .i64 (r[t.far.toNat])) rfl (rd_own (i := 0) rfl) (by first | assumption | omega) sh3 rfl) rfl rfl rfl ?_
          refine o_pure (p_assign (v := .int .i64 (r[t.far.toNat])) rfl) rfl rfl rfl ?_
          refine o_nil ?_
          refine q_then ?_
          refine c_region ?_
          refine o_pure (p_move (v := .slice ar r.length cr) rfl) rfl rfl rfl ?_
          refine o_pure (p_fieldAddr (B := B1) (j := 0) (j' := 1) rfl fo43_1 rfl) rfl rfl rfl ?_
          refine o_pure (p_load (i := 3) (v := .int .i64 t.far) rfl rfl sh3 rfl) rfl rfl rfl ?_
          refine o_pure (p_sliceH (L := r) (T := tInt) (h := t.far) rfl rfl Try.underlying23 sz3 (by omega) (by omega) (rd_own (i := 0) rfl)) rfl rfl rfl ?_
          refine o_pure (p_assign (v := .slice ar (r.take t.far.toNat).length cr) rfl) rfl rfl rfl ?_
          refine o_nil ?_
          refine q_then ?_
          refine c_seq ?_
          refine c_region ?_
          refine o_pure (p_fieldAddr (B := B1) (j := 0) (j' := 0) rfl fo43_0 rfl) rfl rfl rfl ?_
          refine o_pure (p_load (i := 3) (v := .int .i64 t.near) rfl rfl sh3 rfl) rfl rfl rfl ?_
          refine o_pure (p_fieldAddr (B := B1) (j := 0) (j' := 1) rfl fo43_1 rfl) rfl rfl rfl ?_
          refine o_pure (p_load (i := 3) (v := .int .i64 t.far) rfl rfl sh3 rfl) rfl rfl rfl ?_
          refine o_pure (p_move (v := .slice af f.length cf) rfl) rfl rfl rfl ?_
          refine o_pure (p_move (v := .slice ar (r.take t.far.toNat).length cr) rfl) rfl rfl rfl ?_
          refine o_pure (p_build (cells := [.int .i64 t.near, .int .i64 t.far, .slice af f.length cf, .slice ar (r.take t.far.toNat).length cr]) fp43 ze43 rfl rfl) rfl rfl rfl ?_
          refine o_pure (p_move (v := .int .i64 wh2) rfl) rfl rfl rfl ?_
          refine o_pure (p_move (v := .int .i64 (r[t.far.toNat])) rfl) rfl rfl rfl ?_
          refine o_shrinkC (i := 0) (hi := t.far.toNat) (T := tInt) rfl (by omega) ?_
          refine o_storeN (i := 2) (vs := [.int .i64 t.near, .int .i64 t.far, .slice af f.length cf, .slice ar (r.take t.far.toNat).length cr]) (cs' := [.int .i64 t.near, .int .i64 t.far, .slice af f.length cf, .slice ar (r.take t.far.toNat).length cr]) rfl rfl rfl sz43 rfl rfl rfl rfl ?_
          refine o_pure (p_assign (v := .int .i64 wh2) rfl) rfl rfl rfl ?_
          refine o_pure (p_assign (v := .int .i64 (r[t.far.toNat])) rfl) rfl rfl rfl ?_
          refine o_nil ?_
          refine q_then ?_
          refine c_ret ?_
          have hr0 : (t.near : Int) = ((Tier.touch t key).1).near := by
            first | exact hw2 | exact hz1 | exact (List.take_of_length_le (i := t.near.toNat) (by omega)).symm.trans hz1 | exact hz2 | exact (List.take_of_length_le (i := t.far.toNat) (by omega)).symm.trans hz2 | exact hz3 (by omega) _ _ rfl | exact (hz4 (by omega)).symm | rfl
          have hr1 : (t.far : Int) = ((Tier.touch t key).1).far := by
            first | exact hw2 | exact hz1 | exact (List.take_of_length_le (i := t.near.toNat) (by omega)).symm.trans hz1 | exact hz2 | exact (List.take_of_length_le (i := t.far.toNat) (by omega)).symm.trans hz2 | exact hz3 (by omega) _ _ rfl | exact (hz4 (by omega)).symm | rfl
          have hr2 : (f : List Int) = ((Tier.touch t key).1).first := by
            first | exact hw2 | exact hz1 | exact (List.take_of_length_le (i := t.near.toNat) (by omega)).symm.trans hz1 | exact hz2 | exact (List.take_of_length_le (i := t.far.toNat) (by omega)).symm.trans hz2 | exact hz3 (by omega) _ _ rfl | exact (hz4 (by omega)).symm | rfl
          have hr3 : ((r.take t.far.toNat) : List Int) = ((Tier.touch t key).1).rest := by
            first | exact hw2 | exact hz1 | exact (List.take_of_length_le (i := t.near.toNat) (by omega)).symm.trans hz1 | exact hz2 | exact (List.take_of_length_le (i := t.far.toNat) (by omega)).symm.trans hz2 | exact hz3 (by omega) _ _ rfl | exact (hz4 (by omega)).symm | rfl
          have hr4 : (wh2 : Int) = (Tier.place t key) := by
            first | exact hw2 | exact hz1 | exact (List.take_of_length_le (i := t.near.toNat) (by omega)).symm.trans hz1 | exact hz2 | exact (List.take_of_length_le (i := t.far.toNat) (by omega)).symm.trans hz2 | exact hz3 (by omega) _ _ rfl | exact (hz4 (by omega)).symm | rfl
          have hr5 : (r[t.far.toNat] : Int) = (Tier.gone t key) := by
            first | exact hw2 | exact hz1 | exact (List.take_of_length_le (i := t.near.toNat) (by omega)).symm.trans hz1 | exact hz2 | exact (List.take_of_length_le (i := t.far.toNat) (by omega)).symm.trans hz2 | exact hz3 (by omega) _ _ rfl | exact (hz4 (by omega)).symm | rfl
          refine q_endX (p := (af, cf, Sf, ar, cr, Sr)) (rt3 rfl (r_cell (i := 2) rfl rfl sh43 rfl) (r_tmp rfl) (r_tmp rfl)) ?_ (fun w hw => ?_)
          · exact (by have hcc := congr (congr (congr (congr (congr (congrArg (fun (y0 : Int) (y1 : Int) (y2 : List Int) (y3 : List Int) (y4 : Int) (y5 : Int) => (.tuple #[.agg #[.int .i64 y0, .int .i64 y1, .slice af y2.length cf, .slice ar y3.length cr], .int .i64 y4, .int .i64 y5] : Value)) hr0) hr1) hr2) hr3) hr4) hr5; exact hcc)
          · have h2 := hw.pick (H' := [outer w0 [], own tInt Sf af cf f, own tInt Sr ar cr (r.take t.far.toNat)]) [4, 1, 0] (by decide) rfl
            exact Eq.mp (congrArg (fun z => HeapIs w0 ((outer w0 []) :: z) w) ((by have hcc := congr (congr (congr (congr (congr (congrArg (fun (y0 : Int) (y1 : Int) (y2 : List Int) (y3 : List Int) (y4 : Int) (y5 : Int) => ([own tInt Sf af cf y2, own tInt Sr ar cr y3] : List Ent)) hr0) hr1) hr2) hr3) hr4) hr5; exact hcc))) h2
        · simp only [decide_eq_false_iff_not, Int.not_lt] at hc47
          refine c_skip ?_
          refine q_then ?_
          refine c_seq ?_
          refine c_region ?_
          refine o_pure (p_fieldAddr (B := B1) (j := 0) (j' := 0) rfl fo43_0 rfl) rfl rfl rfl ?_
          refine o_pure (p_load (i := 3) (v := .int .i64 t.near) rfl rfl sh3 rfl) rfl rfl rfl ?_
          refine o_pure (p_fieldAddr (B := B1) (j := 0) (j' := 1) rfl fo43_1 rfl) rfl rfl rfl ?_
          refine o_pure (p_load (i := 3) (v := .int .i64 t.far) rfl rfl sh3 rfl) rfl rfl rfl ?_
          refine o_pure (p_move (v := .slice af f.length cf) rfl) rfl rfl rfl ?_
          refine o_pure (p_move (v := .slice ar r.length cr) rfl) rfl rfl rfl ?_
          refine o_pure (p_build (cells := [.int .i64 t.near, .int .i64 t.far, .slice af f.length cf, .slice ar r.length cr]) fp43 ze43 rfl rfl) rfl rfl rfl ?_
          refine o_pure (p_move (v := .int .i64 wh2) rfl) rfl rfl rfl ?_
          refine o_pure (p_move (v := .int .i64 (-1)) rfl) rfl rfl rfl ?_
          refine o_storeN (i := 2) (vs := [.int .i64 t.near, .int .i64 t.far, .slice af f.length cf, .slice ar r.length cr]) (cs' := [.int .i64 t.near, .int .i64 t.far, .slice af f.length cf, .slice ar r.length cr]) rfl rfl rfl sz43 rfl rfl rfl rfl ?_
          refine o_pure (p_assign (v := .int .i64 wh2) rfl) rfl rfl rfl ?_
          refine o_pure (p_assign (v := .int .i64 (-1)) rfl) rfl rfl rfl ?_
          refine o_nil ?_
          refine q_then ?_
          refine c_ret ?_
          have hr0 : (t.near : Int) = ((Tier.touch t key).1).near := by
            first | exact hw2 | exact hz1 | exact (List.take_of_length_le (i := t.near.toNat) (by omega)).symm.trans hz1 | exact hz2 | exact (List.take_of_length_le (i := t.far.toNat) (by omega)).symm.trans hz2 | exact hz3 (by omega) _ _ rfl | exact (hz4 (by omega)).symm | rfl
          have hr1 : (t.far : Int) = ((Tier.touch t key).1).far := by
            first | exact hw2 | exact hz1 | exact (List.take_of_length_le (i := t.near.toNat) (by omega)).symm.trans hz1 | exact hz2 | exact (List.take_of_length_le (i := t.far.toNat) (by omega)).symm.trans hz2 | exact hz3 (by omega) _ _ rfl | exact (hz4 (by omega)).symm | rfl
          have hr2 : (f : List Int) = ((Tier.touch t key).1).first := by
            first | exact hw2 | exact hz1 | exact (List.take_of_length_le (i := t.near.toNat) (by omega)).symm.trans hz1 | exact hz2 | exact (List.take_of_length_le (i := t.far.toNat) (by omega)).symm.trans hz2 | exact hz3 (by omega) _ _ rfl | exact (hz4 (by omega)).symm | rfl
          have hr3 : (r : List Int) = ((Tier.touch t key).1).rest := by
            first | exact hw2 | exact hz1 | exact (List.take_of_length_le (i := t.near.toNat) (by omega)).symm.trans hz1 | exact hz2 | exact (List.take_of_length_le (i := t.far.toNat) (by omega)).symm.trans hz2 | exact hz3 (by omega) _ _ rfl | exact (hz4 (by omega)).symm | rfl
          have hr4 : (wh2 : Int) = (Tier.place t key) := by
            first | exact hw2 | exact hz1 | exact (List.take_of_length_le (i := t.near.toNat) (by omega)).symm.trans hz1 | exact hz2 | exact (List.take_of_length_le (i := t.far.toNat) (by omega)).symm.trans hz2 | exact hz3 (by omega) _ _ rfl | exact (hz4 (by omega)).symm | rfl
          have hr5 : ((-1) : Int) = (Tier.gone t key) := by
            first | exact hw2 | exact hz1 | exact (List.take_of_length_le (i := t.near.toNat) (by omega)).symm.trans hz1 | exact hz2 | exact (List.take_of_length_le (i := t.far.toNat) (by omega)).symm.trans hz2 | exact hz3 (by omega) _ _ rfl | exact (hz4 (by omega)).symm | rfl
          refine q_endX (p := (af, cf, Sf, ar, cr, Sr)) (rt3 rfl (r_cell (i := 2) rfl rfl sh43 rfl) (r_tmp rfl) (r_tmp rfl)) ?_ (fun w hw => ?_)
          · exact (by have hcc := congr (congr (congr (congr (congr (congrArg (fun (y0 : Int) (y1 : Int) (y2 : List Int) (y3 : List Int) (y4 : Int) (y5 : Int) => (.tuple #[.agg #[.int .i64 y0, .int .i64 y1, .slice af y2.length cf, .slice ar y3.length cr], .int .i64 y4, .int .i64 y5] : Value)) hr0) hr1) hr2) hr3) hr4) hr5; exact hcc)
          · have h2 := hw.pick (H' := [outer w0 [], own tInt Sf af cf f, own tInt Sr ar cr r]) [4, 1, 0] (by decide) rfl
            exact Eq.mp (congrArg (fun z => HeapIs w0 ((outer w0 []) :: z) w) ((by have hcc := congr (congr (congr (congr (congr (congrArg (fun (y0 : Int) (y1 : Int) (y2 : List Int) (y3 : List Int) (y4 : Int) (y5 : Int) => ([own tInt Sf af cf y2, own tInt Sr ar cr y3] : List Ent)) hr0) hr1) hr2) hr3) hr4) hr5; exact hcc))) h2

set_option maxHeartbeats 8000000 in
set_option maxRecDepth 100000 in
theorem sameTiers_ok (a : DTiers) (aa_0 : Option Addr) (ca_0 : Nat) (aa_1 : Option Addr) (ca_1 : Nat) (b : DTiers) (ab_0 : Option Addr) (cb_0 : Nat) (ab_1 : Option Addr) (cb_1 : Nat) : Fn0 Try.prog 35 [.agg #[.int .i64 a.near, .int .i64 a.far, .slice aa_0 a.first.length ca_0, .slice aa_1 a.rest.length ca_1], .agg #[.int .i64 b.near, .int .i64 b.far, .slice ab_0 b.first.length cb_0, .slice ab_1 b.rest.length cb_1]] (fun w => Rd tInt w aa_0 ca_0 a.first ∧ Rd tInt w aa_1 ca_1 a.rest ∧ Rd tInt w ab_0 cb_0 b.first ∧ Rd tInt w ab_1 cb_1 b.rest) (.bool (decide (a = b))) := by
  refine fn0 (nt := 31) (F0 := [(0, .agg #[.int .i64 a.near, .int .i64 a.far, .slice aa_0 a.first.length ca_0, .slice aa_1 a.rest.length ca_1]), (1, .agg #[.int .i64 b.near, .int .i64 b.far, .slice ab_0 b.first.length cb_0, .slice ab_1 b.rest.length cb_1])]) Try.func35 rfl Try.ntmps35 rfl rfl (fun w0 hpre => ?_)
  obtain ⟨ha_0, ha_1, hb_0, hb_1⟩ := hpre
  have hlha_0 := ha_0.2.1
  have hlha_1 := ha_1.2.1
  have hlhb_0 := hb_0.2.1
  have hlhb_1 := hb_1.2.1
  refine c_seq ?_
  refine c_region ?_
  refine o_box (v := .agg #[.int .i64 a.near, .int .i64 a.far, .slice aa_0 a.first.length ca_0, .slice aa_1 a.rest.length ca_1]) rfl rfl (fun B1 => ?_)
  refine o_box (v := .agg #[.int .i64 b.near, .int .i64 b.far, .slice ab_0 b.first.length cb_0, .slice ab_1 b.rest.length cb_1]) rfl rfl (fun B2 => ?_)
  refine o_pure (p_assign (v := .bool false) rfl) rfl rfl rfl ?_
  refine o_nil ?_
  refine q_then ?_
  refine c_seq ?_
  refine c_region ?_
  refine o_pure (p_fieldAddr (B := B1) (j := 0) (j' := 0) rfl fo43_0 rfl) rfl rfl rfl ?_
  refine o_pure (p_load (i := 1) (v := .int .i64 a.near) rfl rfl sh3 rfl) rfl rfl rfl ?_
  refine o_pure (p_fieldAddr (B := B2) (j := 0) (j' := 0) rfl fo43_0 rfl) rfl rfl rfl ?_
  refine o_pure (p_load (i := 0) (v := .int .i64 b.near) rfl rfl sh3 rfl) rfl rfl rfl ?_
  refine o_pure (p_eq (p := a.near) (q := b.near) rfl rfl) rfl rfl rfl ?_
  refine o_pure (p_move (v := .bool (a.near == b.near)) rfl) rfl rfl rfl ?_
  refine o_and (p := 16) 6 (a.far == b.far) ?_ ?_ ?_
  · intro hb3 hk
    simp only [beq_iff_eq] at hb3
    refine o_unguard 10 rfl rfl ?_
    refine o_pure (p_fieldAddr (B := B1) (j := 0) (j' := 1) rfl fo43_1 rfl) rfl rfl rfl ?_
    refine o_unguard 10 rfl rfl ?_
    refine o_pure (p_load (i := 1) (v := .int .i64 a.far) rfl rfl sh3 rfl) rfl rfl rfl ?_
    refine o_unguard 10 rfl rfl ?_
    refine o_pure (p_fieldAddr (B := B2) (j := 0) (j' := 1) rfl fo43_1 rfl) rfl rfl rfl ?_
    refine o_unguard 10 rfl rfl ?_
    refine o_pure (p_load (i := 0) (v := .int .i64 b.far) rfl rfl sh3 rfl) rfl rfl rfl ?_
    refine o_unguard 10 rfl rfl ?_
    refine o_pure (p_eq (p := a.far) (q := b.far) rfl rfl) rfl rfl rfl ?_
    refine o_pure (p_pick_true (u := .bool (a.far == b.far)) rfl rfl) rfl rfl rfl ?_
    exact o_sub (Sub.cons rfl (Sub.skip rfl (Sub.skip rfl (Sub.skip rfl (Sub.skip rfl (Sub.skip rfl (Sub.skip rfl (Sub.skip rfl (Sub.refl _))))))))) hk
  · intro hb3 hk
    refine o_guard_no rfl 10 rfl rfl rfl rfl rfl ?_
    refine o_guard_no rfl 10 rfl rfl rfl rfl rfl ?_
    refine o_guard_no rfl 10 rfl rfl rfl rfl rfl ?_
    refine o_guard_no rfl 10 rfl rfl rfl rfl rfl ?_
    refine o_guard_no rfl 10 rfl rfl rfl rfl rfl ?_
    refine o_pure (p_pick_false (v := .bool false) rfl rfl) rfl rfl rfl ?_
    exact o_sub (Sub.cons rfl (Sub.skip rfl (Sub.skip rfl (Sub.skip rfl (Sub.skip rfl (Sub.skip rfl (Sub.skip rfl (Sub.skip rfl (Sub.refl _))))))))) hk
  refine o_pure (p_move (v := .bool ((a.near == b.near) && (a.far == b.far))) rfl) rfl rfl rfl ?_
  refine o_and (p := 23) 6 (Ref.sameInts a.first b.first) ?_ ?_ ?_
  · intro hb4 hk
    simp only [Bool.and_eq_true, beq_iff_eq] at hb4
    refine o_unguard 17 rfl rfl ?_
    refine o_pure (p_fieldAddr (B := B1) (j := 0) (j' := 2) rfl fo43_2 rfl) rfl rfl rfl ?_
    refine o_unguard 17 rfl rfl ?_
    refine o_pure (p_load (i := 1) (v := .slice aa_0 a.first.length ca_0) rfl rfl sh23 rfl) rfl rfl rfl ?_
    refine o_unguard 17 rfl rfl ?_
    refine o_pure (p_fieldAddr (B := B2) (j := 0) (j' := 2) rfl fo43_2 rfl) rfl rfl rfl ?_
    refine o_unguard 17 rfl rfl ?_
    refine o_pure (p_load (i := 0) (v := .slice ab_0 b.first.length cb_0) rfl rfl sh23 rfl) rfl rfl rfl ?_
    refine o_unguard 17 rfl rfl ?_
    refine o_call0 (v := .bool (Ref.sameInts a.first b.first)) rfl (sameInts_ok a.first aa_0 ca_0 b.first ab_0 cb_0) hf26 (fun w hw => ⟨(rd_base (i := 2) rfl ha_0) w hw, (rd_base (i := 2) rfl hb_0) w hw⟩) rfl ?_
    refine o_pure (p_pick_true (u := .bool (Ref.sameInts a.first b.first)) rfl rfl) rfl rfl rfl ?_
    exact o_sub (Sub.cons rfl (Sub.skip rfl (Sub.skip rfl (Sub.skip rfl (Sub.skip rfl (Sub.skip rfl (Sub.skip rfl (Sub.skip rfl (Sub.refl _))))))))) hk
  · intro hb4 hk
    refine o_guard_no rfl 17 rfl rfl rfl rfl rfl ?_
    refine o_guard_no rfl 17 rfl rfl rfl rfl rfl ?_
    refine o_guard_no rfl 17 rfl rfl rfl rfl rfl ?_
    refine o_guard_no rfl 17 rfl rfl rfl rfl rfl ?_
    refine o_guard_no rfl 17 rfl rfl rfl rfl rfl ?_
    refine o_pure (p_pick_false (v := .bool false) rfl rfl) rfl rfl rfl ?_
    exact o_sub (Sub.cons rfl (Sub.skip rfl (Sub.skip rfl (Sub.skip rfl (Sub.skip rfl (Sub.skip rfl (Sub.skip rfl (Sub.skip rfl (Sub.refl _))))))))) hk
  refine o_pure (p_move (v := .bool (((a.near == b.near) && (a.far == b.far)) && (Ref.sameInts a.first b.first))) rfl) rfl rfl rfl ?_
  refine o_and (p := 30) 6 (Ref.sameInts a.rest b.rest) ?_ ?_ ?_
  · intro hb5 hk
    simp only [Bool.and_eq_true, beq_iff_eq] at hb5
    refine o_unguard 24 rfl rfl ?_
    refine o_pure (p_fieldAddr (B := B1) (j := 0) (j' := 3) rfl fo43_3 rfl) rfl rfl rfl ?_
    refine o_unguard 24 rfl rfl ?_
    refine o_pure (p_load (i := 1) (v := .slice aa_1 a.rest.length ca_1) rfl rfl sh23 rfl) rfl rfl rfl ?_
    refine o_unguard 24 rfl rfl ?_
    refine o_pure (p_fieldAddr (B := B2) (j := 0) (j' := 3) rfl fo43_3 rfl) rfl rfl rfl ?_
    refine o_unguard 24 rfl rfl ?_
    refine o_pure (p_load (i := 0) (v := .slice ab_1 b.rest.length cb_1) rfl rfl sh23 rfl) rfl rfl rfl ?_
    refine o_unguard 24 rfl rfl ?_
    refine o_call0 (v := .bool (Ref.sameInts a.rest b.rest)) rfl (sameInts_ok a.rest aa_1 ca_1 b.rest ab_1 cb_1) hf26 (fun w hw => ⟨(rd_base (i := 2) rfl ha_1) w hw, (rd_base (i := 2) rfl hb_1) w hw⟩) rfl ?_
    refine o_pure (p_pick_true (u := .bool (Ref.sameInts a.rest b.rest)) rfl rfl) rfl rfl rfl ?_
    exact o_sub (Sub.cons rfl (Sub.skip rfl (Sub.skip rfl (Sub.skip rfl (Sub.skip rfl (Sub.skip rfl (Sub.skip rfl (Sub.skip rfl (Sub.refl _))))))))) hk
  · intro hb5 hk
    refine o_guard_no rfl 24 rfl rfl rfl rfl rfl ?_
    refine o_guard_no rfl 24 rfl rfl rfl rfl rfl ?_
    refine o_guard_no rfl 24 rfl rfl rfl rfl rfl ?_
    refine o_guard_no rfl 24 rfl rfl rfl rfl rfl ?_
    refine o_guard_no rfl 24 rfl rfl rfl rfl rfl ?_
    refine o_pure (p_pick_false (v := .bool false) rfl rfl) rfl rfl rfl ?_
    exact o_sub (Sub.cons rfl (Sub.skip rfl (Sub.skip rfl (Sub.skip rfl (Sub.skip rfl (Sub.skip rfl (Sub.skip rfl (Sub.skip rfl (Sub.refl _))))))))) hk
  refine o_pure (p_assign (v := .bool ((((a.near == b.near) && (a.far == b.far)) && (Ref.sameInts a.first b.first)) && (Ref.sameInts a.rest b.rest))) rfl) rfl rfl rfl ?_
  refine o_nil ?_
  refine q_then ?_
  refine c_ret ?_
  have hr0 : (((((a.near == b.near) && (a.far == b.far)) && (Ref.sameInts a.first b.first)) && (Ref.sameInts a.rest b.rest)) : Bool) = (decide (a = b)) := by
    rw [Bool.eq_iff_iff]; simp [Ref.sameInts, Tier.same_tiers, and_assoc]; done
  refine q_end0 (v := .bool ((((a.near == b.near) && (a.far == b.far)) && (Ref.sameInts a.first b.first)) && (Ref.sameInts a.rest b.rest))) (rt1 rfl (r_tmp rfl)) (i := 2) rfl ?_
  exact (by have hcc := congrArg (fun (y0 : Bool) => (.bool y0 : Value)) hr0; exact hcc)
end Go.Proofs.Ytgjdmnljnimamaa
